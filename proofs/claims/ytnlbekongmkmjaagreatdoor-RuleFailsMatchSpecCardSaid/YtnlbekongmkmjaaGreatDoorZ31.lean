/- Lists within right trees are right (plain). Right trees are narrow: few repeats, short texts (plain). Texts that are found in trees: the program (walks). Search with functions that were made: texts, lists of branches (walks). What is found in trees: the reference (walks). -/
import Derived.Test.YtnlbekongmkmjaaGreatDoorZ26
import Derived.Test.YtnlbekongmkmjaaGreatDoorZ30
import Derived.Test.YtnlbekongmkmjaaGreatDoorZ19
import Derived.Test.YtnlbekongmkmjaaGreatDoorZ27
namespace Go.Proofs.YtnlbekongmkmjaaGreatDoor
set_option linter.unusedSimpArgs false
set_option linter.unusedVariables false
open Go.RowKit
set_option maxRecDepth 100000
structure NarE (e:El):Prop where
 few:e.length≤20
 parts:∀ p ∈ e,1≤p.length∧p.length≤20
 texts:∀ p ∈ e,∀ s ∈ p,s.length≤1000
inductive Br.Nar:Br→Prop where
 |mk {n t:Str} {els:List El} {ks:List Br} (ht:t.length≤1000) (hl:els.length≤50) (h:∀ e ∈ els,NarE e) (hk:∀ x ∈ ks,x.Nar):(Br.mk n t els ks).Nar
theorem partsErr_ok:∀ l:List Str,partsErr l=0→∀ s ∈ l,s.length≤1000
 |[],_=>by simp
 |s::l,h=>by
  rw [partsErr] at h
  by_cases he:textErr s=0
  ·rw [if_neg (by simp [he])] at h
   intro x hx
   rcases List.mem_cons.1 hx with rfl|hx
   ·unfold textErr at he
    split at he
    ·cases he
    ·omega
   ·exact partsErr_ok l h x hx
  ·rw [if_pos he] at h
   exact absurd h he
theorem repsErr_ok:∀ l:List (List Str),repsErr l=0→∀ p ∈ l,(1≤p.length∧p.length≤20)∧∀ s ∈ p,s.length≤1000
 |[],_=>by simp
 |q::l,h=>by
  rw [repsErr] at h
  split at h
  ·cases h
  ·rename_i h1
   split at h
   ·cases h
   ·rename_i h2
    by_cases he:partsErr q=0
    ·rw [if_neg (by simp [he])] at h
     intro x hx
     rcases List.mem_cons.1 hx with rfl|hx
     ·exact ⟨⟨by omega,by omega⟩,partsErr_ok _ he⟩
     ·exact repsErr_ok l h x hx
    ·rw [if_pos he] at h
     exact absurd h he
theorem elErr_ok {e:El} (h:elErr e=0):NarE e:=by
 unfold elErr at h
 split at h
 ·cases h
 ·split at h
  ·cases h
  ·have h2:=repsErr_ok e h
   exact ⟨by omega,fun p hp=>(h2 p hp).1,fun p hp=>(h2 p hp).2⟩
theorem segElErr_ok:∀ l:List El,segElErr l=0→∀ e ∈ l,NarE e
 |[],_=>by simp
 |q::l,h=>by
  rw [segElErr] at h
  by_cases he:elErr q=0
  ·rw [if_neg (by simp [he])] at h
   intro x hx
   rcases List.mem_cons.1 hx with rfl|hx
   ·exact elErr_ok he
   ·exact segElErr_ok l h x hx
  ·rw [if_pos he] at h
   exact absurd h he
theorem segErr_ok {t:Str} {els:List El} (h:segErr t els=0):isTagB t=true∧els.length≤50∧∀ e ∈ els,NarE e:=by
 unfold segErr at h
 split at h
 ·cases h
 ·rename_i h1
  split at h
  ·cases h
  ·exact ⟨by simpa using h1,by omega,segElErr_ok els h⟩
theorem chks_nar {d:Int}:∀ (l:List Br),(∀ b ∈ l,∀ m,(b.chk d m).2=0→b.Nar)→∀ m,(Br.chks d m l).2=0→∀ b ∈ l,b.Nar
 |[],_,_,_=>by simp
 |b::l,hb,m,h=>by
  rw [bchks_cons] at h
  by_cases he:(b.chk d m).2=0
  ·rw [if_neg (by simp [he])] at h
   intro x hx
   rcases List.mem_cons.1 hx with rfl|hx
   ·exact hb _ (by simp) m he
   ·exact chks_nar l (fun y hy=>hb y (by simp [hy])) _ h x hx
  ·rw [if_pos he] at h
   exact absurd h he
theorem tag_short {t:Str} (h:isTagB t=true):t.length≤1000:=by
 unfold isTagB at h
 simp only [Bool.and_eq_true,decide_eq_true_eq] at h
 have:=h.1.1.2
 omega
theorem chk_nar (b:Br):∀ d m:Int,(b.chk d m).2=0→b.Nar:=by
 induction b using Br.ind with
 |h n t els ks ih=>
  intro d m h
  rw [bchk_mk] at h
  split at h
  ·cases h
  ·split at h
   ·cases h
   ·split at h
    ·cases h
    ·rename_i h3
     split at h
     ·cases h
     ·rename_i h4
      split at h
      ·rename_i h5
       obtain ⟨g1,g2,g3⟩:=segErr_ok h
       have hk:ks = []:=List.length_eq_zero_iff.1 (by simp only [h5,true_and] at h3;omega)
       exact .mk (tag_short g1) g2 g3 (by rw [hk];simp)
      ·rename_i h5
       have hb:t = []∧els.length=0:=Classical.byContradiction fun e=>h4 ⟨h5,.inl e⟩
       have he:els = []:=List.length_eq_zero_iff.1 hb.2
       exact .mk (by rw [hb.1];simp) (by omega) (by rw [he];simp) (chks_nar ks (fun c hc m hm=>ih c hc (d+1) m hm) _ h)
theorem tree_nar {l:List Br} (h:treeErr l=0):∀ b ∈ l,b.Nar:=chks_nar l (fun b _ m hm=>chk_nar b 0 m hm) 0 h
theorem inside_nar:∀ (ns:List Str) (l:List Br),(∀ b ∈ l,b.Nar)→∀ x ∈ inside1 ns l,∀ b ∈ x,b.Nar
 |[],l,h,x,hx=>by
  rw [inside1] at hx
  obtain rfl:=List.mem_singleton.1 hx
  exact h
 |n::ns,l,h,x,hx=>by
  rw [inside1] at hx
  obtain ⟨b,hb,hx⟩:=List.mem_flatMap.1 hx
  refine inside_nar ns b.kids (fun c hc => ?_) x hx
  have:=h b (List.mem_filter.1 hb).1
  obtain ⟨_,_,_,hk⟩:=this
  exact hk c hc
theorem inside_sz:∀ (ns:List Str) (l:List Br),lszs (inside1 ns l)≤1+Br.sizes l:=fun ns l=>by
 rw [← insideL_one]
 have key:∀ (ns:List Str) (ls:List (List Br)),lszs (insideL ns ls)≤lszs ls:=by
  intro ns
  induction ns with
  |nil=>intro ls;exact Nat.le_refl _
  |cons n ns ih=>
   intro ls
   rw [insideL_step]
   exact Nat.le_trans (ih _) (stepL_sz n ls)
 have:=key ns [l]
 simpa [lszs] using this
theorem segTexts_ok {t:Str} {els:List El} {el pt:Int} (ht:t.length≤1000) (h:∀ e ∈ els,NarE e):(segTexts t els el pt).length≤20∧∀ s ∈ segTexts t els el pt,s.length≤1000:=by
 unfold segTexts
 split
 ·exact ⟨by simp,fun s hs=>by obtain rfl:=List.mem_singleton.1 hs;exact ht⟩
 ·split
  ·exact ⟨by simp,by simp⟩
  ·rename_i e he
   have hn:=h e (gMem he)
   refine ⟨Nat.le_trans (List.length_filter_le _ _) (Nat.le_trans (List.length_filterMap_le _ _) hn.few),fun s hs => ?_⟩
   have hs:=(List.mem_filter.1 hs).1
   obtain ⟨p,hp,hq⟩:=List.mem_filterMap.1 hs
   exact hn.texts p hp s (gMem hq)
theorem listTexts_ok {tag:Str} {el pt:Int}:∀ (l:List Br),(∀ b ∈ l,b.Nar)→(listTexts tag el pt l).length≤20 * l.length∧∀ s ∈ listTexts tag el pt l,s.length≤1000
 |[],_=>by simp [listTexts]
 |⟨n,t,els,ks⟩::l,h=>by
  obtain ⟨h1,h2⟩:=listTexts_ok (tag:=tag) (el:=el) (pt:=pt) l fun b hb=>h b (by simp [hb])
  obtain ⟨ht,_,he,_⟩:=h ⟨n,t,els,ks⟩ (by simp)
  obtain ⟨g1,g2⟩:=segTexts_ok (el:=el) (pt:=pt) ht he
  have e:listTexts tag el pt (⟨n,t,els,ks⟩::l)=(if n = []∧t=tag then segTexts t els el pt else [])++listTexts tag el pt l:=rfl
  rw [e,List.length_append,List.length_cons]
  constructor
  ·split
   ·omega
   ·simp;omega
  ·intro s hs
   rcases List.mem_append.1 hs with hs|hs
   ·split at hs
    ·exact g2 s hs
    ·cases hs
   ·exact h2 s hs
theorem flatTexts_ok {tag:Str} {el pt:Int}:∀ (ls:List (List Br)),(∀ x ∈ ls,∀ b ∈ x,b.Nar)→(ls.flatMap (listTexts tag el pt)).length≤20 * lszs ls∧∀ s ∈ ls.flatMap (listTexts tag el pt),s.length≤1000
 |[],_=>by simp [lszs]
 |l::ls,h=>by
  obtain ⟨h1,h2⟩:=flatTexts_ok (tag:=tag) (el:=el) (pt:=pt) ls fun x hx=>h x (by simp [hx])
  obtain ⟨g1,g2⟩:=listTexts_ok (tag:=tag) (el:=el) (pt:=pt) l (h l (by simp))
  have:=blen_sizes l
  rw [List.flatMap_cons,List.length_append,lszs]
  refine ⟨by omega,fun s hs => ?_⟩
  rcases List.mem_append.1 hs with hs|hs
  ·exact g2 s hs
  ·exact h2 s hs
theorem findTexts_ok {ns:List Str} {tag:Str} {el pt:Int} {l:List Br} (h:∀ b ∈ l,b.Nar) (hs:Br.sizes l≤100000):(findTexts ns tag el pt l).length≤10000000∧∀ s ∈ findTexts ns tag el pt l,s.length≤1000:=by
 obtain ⟨h1,h2⟩:=flatTexts_ok (tag:=tag) (el:=el) (pt:=pt) (inside1 ns l) (inside_nar ns l h)
 have h3:=inside_sz ns l
 exact ⟨by unfold findTexts;omega,h2⟩
set_option maxHeartbeats 4000000
theorem Kids_sem (tree:List Br) (p:Str) (hp:p.length≤1000) (hs:Br.sizes tree≤100000):Sem Tryz.prog 50 [.sl 0 4 (tree.map Br.row),.str p] (.sl 0 1 ((kidsP p tree).map klR)):=by
 unfold kidsP
 by_cases h:p = []
 ·subst h
  rw [if_pos rfl]
  refine si [1000044,1000045,1000084] Tryz.func50 ?_
  repeat'((conv=>whnf);first|(try(first|apply eN|apply eC);conv=>whnf);apply sD;(focus first|(refine gx (namesOf_sem ?_ ?_)<;>exact pre)|(refine gx (kidsOf_sem ?_ ?_ ?_ ?_)<;>exact pre)|exact side)|apply rR|apply rE|apply rH|(apply cD<;>intro hb<;>(try simp only[SPLT]at hb)<;>try exact noB))
  all_goals try exact false
  exact finR
 ·rw [if_neg h]
  have h1:=namesOf_sem p hp
  have hl:=parts_len (c:=47) p
  have h2:=kidsOf_sem tree (partsAt 47 p) (by omega) hs
  generalize partsAt 47 p=ns at h1 h2
  refine si [1000044,1000045,1000084] Tryz.func50 ?_
  repeat'((conv=>whnf);first|(try(first|apply eN|apply eC);conv=>whnf);apply sD;(focus first|exact gx h1|exact gx h2|(refine gx (namesOf_sem ?_ ?_)<;>exact pre)|(refine gx (kidsOf_sem ?_ ?_ ?_ ?_)<;>exact pre)|exact side)|apply rR|apply rE|apply rH|((apply cD)<;>intro hb<;>(try simp only [SPLT] at hb)<;>(try first|exact noB|(exact h hb;done))))
  all_goals try exact false
  exact finR
theorem textAt_sem (t:Str) (els:List El) (e:Int) (k:Nat) (pt:Int) (el:El) (p:List Str) (he:els[(e - 1).toNat]?=some el) (hk:el[k]?=some p) (he1:1≤e) (he2:e≤1000) (hp1:1≤pt) (hp2:pt≤1000) (hlk:el.length≤1000):
  Sem Tryz.prog 92 [.agg [.str t,.sl 0 1 (els.map elR)],.agg [.int .i64 e,.int .i64 ((k:Int)+1),.int .i64 pt]] (.tup [.str (p[(pt - 1).toNat]?.getD []),.bool (p[(pt - 1).toNat]?).isSome]):=by
 have hll:(els.map elR).length=els.length:=List.length_map _
 have hkl:=(gLt hk)
 have hel:=(gLt he)
 have hlm:(el.map repR).length=el.length:=List.length_map _
 have hpm:(p.map partR).length=p.length:=List.length_map _
 by_cases hlen:(pt - 1).toNat < p.length
 ·obtain ⟨s,hs⟩:∃ s,p[(pt - 1).toNat]?=some s:=⟨_,List.getElem?_eq_getElem hlen⟩
  rw [hs]
  refine si [1000044,1000045,1000084] Tryz.func92 ?_
  repeat'((conv=>whnf);first|(try(first|apply eN|apply eI|apply eC);conv=>whnf);apply sD;(focus(try intro hc;have hc0:=hc;(try simp only[SPLT]at hc);try refine and0 ?_);first|(exact idx_el he (by omega))|(exact idx_rep hk (by omega))|(exact idx_str hs (by omega))|exact sideG)|(first|apply dG|apply kB);kernel_rfl|apply rR|apply rE|apply rH|(apply cD<;>intro hb<;>(try simp only[SPLT]at hb)<;>try exact noB))
  all_goals try exact false
  repeat' ((conv=>whnf);first|exact endR|with_reducible first|apply And.intro|apply oR|apply oN|apply dC)
  all_goals (conv=>whnf)
  exact rle_str rfl
 ·rw [List.getElem?_eq_none_iff.2 (by omega)]
  refine si [1000044,1000045,1000084] Tryz.func92 ?_
  repeat'((conv=>whnf);first|(try(first|apply eN|apply eI|apply eC);conv=>whnf);apply sD;(focus(try intro hc;have hc0:=hc;(try simp only[SPLT]at hc);try refine and0 ?_);first|(exact idx_el he (by omega))|(exact idx_rep hk (by omega))|exact sideG)|(first|apply dG|apply kB);kernel_rfl|apply rR|apply rE|apply rH|(apply cD<;>intro hb<;>(try simp only[SPLT]at hb)<;>try exact noB))
  all_goals try exact false
  repeat' ((conv=>whnf);first|exact endR|with_reducible first|apply And.intro|apply oR|apply oN|apply dC)
  all_goals (conv=>whnf)
  exact rle_str rfl
def elTexts (pt:Int) (e:El):List Str:=(e.filterMap fun p=>p[(max pt 1 - 1).toNat]?).filter fun s=>s != []
theorem elTexts_at {pt:Int} {e:El} {k:Nat} {p:List Str} (h:e[k]?=some p):elTexts pt (e.drop k)=if p[(max pt 1 - 1).toNat]?.getD [] = [] then elTexts pt (e.drop (k+1)) else p[(max pt 1 - 1).toNat]?.getD []::elTexts pt (e.drop (k+1)):=by
 unfold elTexts
 rw [List.drop_eq_getElem_cons (gLt h),(List.getElem?_eq_some_iff.1 h).2]
 cases hp:p[(max pt 1 - 1).toNat]? with
 |none=>rw [List.filterMap_cons_none (f:=fun p:List Str=>p[(max pt 1 - 1).toNat]?) hp];rfl
 |some s=>
  rw [List.filterMap_cons_some (f:=fun p:List Str=>p[(max pt 1 - 1).toNat]?) hp,List.filter_cons]
  show _=if s = [] then _ else s::_
  cases s with
  |nil=>rfl
  |cons b s=>rfl
theorem flatF_at {tag:Str} {el pt:Int} {ls:List (List Br)} {k:Nat} {l:List Br} (h:ls[k]?=some l):(ls.drop k).flatMap (listTexts tag el pt)=listTexts tag el pt l++(ls.drop (k+1)).flatMap (listTexts tag el pt):=by
 rw [List.drop_eq_getElem_cons (gLt h),(List.getElem?_eq_some_iff.1 h).2,List.flatMap_cons]
theorem listT_yes {tag t n:Str} {els:List El} {ks:List Br} {el pt:Int} {l:List Br} {m:Nat} (h:l[m]?=some (.mk n t els ks)) (e:n = []) (e2:t=tag):listTexts tag el pt (l.drop m)=segTexts t els el pt++listTexts tag el pt (l.drop (m+1)):=by
 unfold listTexts
 rw [List.drop_eq_getElem_cons (gLt h),(List.getElem?_eq_some_iff.1 h).2,List.flatMap_cons]
 congr 1
 exact if_pos ⟨e,e2⟩
theorem listT_no {tag t n:Str} {els:List El} {ks:List Br} {el pt:Int} {l:List Br} {m:Nat} (h:l[m]?=some (.mk n t els ks)) (e:¬ (n = []∧t=tag)):listTexts tag el pt (l.drop m)=listTexts tag el pt (l.drop (m+1)):=by
 unfold listTexts
 rw [List.drop_eq_getElem_cons (gLt h),(List.getElem?_eq_some_iff.1 h).2,List.flatMap_cons]
 have:(if (Br.mk n t els ks).name = []∧(Br.mk n t els ks).tag=tag then segTexts (Br.mk n t els ks).tag (Br.mk n t els ks).els el pt else []) = []:=if_neg e
 rw [this,List.nil_append]
theorem texts_sem (tree:List Br) (ns:List Str) (tag:Str) (el pt:Int) (hl:ns.length≤2000) (hs:Br.sizes tree≤100000) (hn:∀ b ∈ tree,b.Nar) (he0:0≤el) (he1:el≤1000) (hp0:0≤pt) (hp1:pt≤1000):
  Sem Tryz.prog 54 [.sl 0 4 (tree.map Br.row),.agg [.sl 0 1 (ns.map fun s => [.str s]),.str tag,.int .i64 el,.int .i64 pt]] (.sl 0 1 ((findTexts ns tag el pt tree).map fun s => [.str s])):=by
 have h1:=kidsOf_sem tree ns hl hs
 have hok:=(findTexts_ok (ns:=ns) (tag:=tag) (el:=el) (pt:=pt) hn hs).1
 have hin:=inside_nar ns tree hn
 have hsz:=inside_sz ns tree
 unfold findTexts at hok ⊢
 generalize inside1 ns tree=ls at h1 hok hin hsz ⊢
 have hlsl:(ls.map klR).length=ls.length:=List.length_map _
 have hlsz:=lszs_len ls
 generalize hR:ls.flatMap (listTexts tag el pt)=R at hok ⊢
 refine si [1000044,1000045,1000084] Tryz.func54 ?_
 repeat'((conv=>whnf);first|(try(first|apply eN|apply eI|apply eC);conv=>whnf);apply sD;(focus(try intro hc;have hc0:=hc;(try simp only[SPLT]at hc);try refine and0 ?_);first|exact gx h1|(refine gx (kidsOf_sem ?_ ?_ ?_ ?_)<;>exact pre)|(refine gx (textAt_sem ?_ ?_ ?_ ?_ ?_ ?_ ?_ ?_ ?_ ?_ ?_ ?_ ?_ ?_)<;>exact pre)|exact sideG)|apply rR|apply rE|apply rH|(apply cD<;>intro hb<;>(try simp only[SPLT]at hb)<;>try exact noB))
 all_goals try exact false
 refine loop_go (M:=fun t=>mem t [1000044,1000045,1000084]) hT hM (fun x:Nat × List Str => [(19,.int .i64 x.1),(5,.sl 1 1 (x.2.map fun s => [.str s]))]) (fun x=>x.1≤ls.length∧x.2++(ls.drop x.1).flatMap (listTexts tag el pt)=R) (fun x=>ls.length - x.1) ((0,[])) ?_ ?_ ?_
 ·(conv=>whnf)
  refine ⟨?_,by rfl⟩
  repeat' ((conv=>whnf);first|exact endF|(exact dle_nil rfl)|exact endF2|with_reducible apply dC)
 ·exact ⟨Nat.zero_le _,by simpa using hR⟩
 ·rintro ⟨k,acc⟩ ⟨hk,hacc⟩
  dsimp only at hk hacc ⊢
  cases hy:ls[k]? with
  |none=>
   have hm:=List.getElem?_eq_none_iff.1 hy
   rw [List.drop_of_length_le hm] at hacc
   have hacc:acc=R:=by simpa using hacc
   subst hacc
   repeat'((conv=>whnf);first|(try(first|apply eN|apply eI|apply eC);conv=>whnf);apply sD;(focus(try intro hc;have hc0:=hc;(try simp only[SPLT]at hc);try refine and0 ?_);first|(refine gx (kidsOf_sem ?_ ?_ ?_ ?_)<;>exact pre)|(refine gx (textAt_sem ?_ ?_ ?_ ?_ ?_ ?_ ?_ ?_ ?_ ?_ ?_ ?_ ?_ ?_)<;>exact pre)|exact sideG)|apply rR|apply rE|apply rH|(apply cD<;>intro hb<;>(try simp only[SPLT]at hb)<;>try exact noB))
   all_goals try exact false
   exact finR
  |some l=>
   have hlk:=(gLt hy)
   rw [flatF_at hy] at hacc
   have hll:(l.map Br.row).length=l.length:=List.length_map _
   have hlsz2:=blen_sizes l
   have hlm:=lszs_mem (gMem hy)
   have hnl:=hin l (gMem hy)
   generalize hrest:(ls.drop (k+1)).flatMap (listTexts tag el pt)=rest at hacc
   repeat'((conv=>whnf);first|(try(first|apply eN|apply eI|apply eC);conv=>whnf);apply sD;(focus(try intro hc;have hc0:=hc;(try simp only[SPLT]at hc);try refine and0 ?_);first|(exact idx_kl hy rfl)|(refine gx (kidsOf_sem ?_ ?_ ?_ ?_)<;>exact pre)|(refine gx (textAt_sem ?_ ?_ ?_ ?_ ?_ ?_ ?_ ?_ ?_ ?_ ?_ ?_ ?_ ?_)<;>exact pre)|exact sideG)|apply rR|apply rE|apply rH|(apply cD<;>intro hb<;>(try simp only[SPLT]at hb)<;>try exact noB))
   all_goals try exact false
   refine loop_go (M:=fun t=>mem t [1000044,1000045,1000084]) hT hM (fun x:Nat × List Str => [(25,.int .i64 x.1),(5,.sl 1 1 (x.2.map fun s => [.str s]))]) (fun x=>x.1≤l.length∧x.2++(listTexts tag el pt (l.drop x.1)++rest)=R) (fun x=>l.length - x.1) ((0,acc)) ?_ ?_ ?_
   ·exact finF
   ·exact ⟨Nat.zero_le _,by simpa using hacc⟩
   ·rintro ⟨m,ac⟩ ⟨hmm,hac⟩
    dsimp only at hmm hac ⊢
    have hacl:ac.length≤10000000:=by
     have:=congrArg List.length hac
     rw [List.length_append] at this
     omega
    cases hz:l[m]? with
    |none=>
     have hm2:=List.getElem?_eq_none_iff.1 hz
     rw [List.drop_of_length_le hm2] at hac
     repeat'((conv=>whnf);first|(try(first|apply eN|apply eI|apply eC);conv=>whnf);apply sD;(focus(try intro hc;have hc0:=hc;(try simp only[SPLT]at hc);try refine and0 ?_);first|(refine gx (kidsOf_sem ?_ ?_ ?_ ?_)<;>exact pre)|(refine gx (textAt_sem ?_ ?_ ?_ ?_ ?_ ?_ ?_ ?_ ?_ ?_ ?_ ?_ ?_ ?_)<;>exact pre)|exact sideG)|apply rR|apply rE|apply rH|(apply cD<;>intro hb<;>(try simp only[SPLT]at hb)<;>try exact noB))
     all_goals try exact false
     refine ⟨(k+1,ac),⟨by dsimp only;omega,?_⟩,by dsimp only;omega,?_⟩
     ·dsimp only
      rw [hrest]
      rw [show listTexts tag el pt [] = [] from rfl,List.nil_append] at hac
      exact hac
     ·exact finF
    |some b=>
     have hlm2:=(gLt hz)
     have hnb:=hnl b (gMem hz)
     obtain ⟨n1,t1,els1,ks1⟩:=b
     obtain ⟨htl,hel,hne,_⟩:=hnb
     have helm:(els1.map elR).length=els1.length:=List.length_map _
     obtain ⟨e,hx⟩:∃ e:El,el - 1 < els1.length→1≤el→els1[(el - 1).toNat]?=some e:=⟨els1[(el - 1).toNat]?.getD [],fun h h'=>by rw [List.getElem?_eq_getElem (by omega)];rfl⟩
     repeat'((conv=>whnf);first|(try(first|apply eN|apply eI|apply eC);conv=>whnf);apply sD;(focus(try intro hc;have hc0:=hc;(try simp only[SPLT]at hc);try refine and0 ?_);first|(exact idx_br hz rfl)|(exact idx_el (hx (by omega) (by omega)) (by omega))|(refine gx (kidsOf_sem ?_ ?_ ?_ ?_)<;>exact pre)|(refine gx (textAt_sem ?_ ?_ ?_ ?_ ?_ ?_ ?_ ?_ ?_ ?_ ?_ ?_ ?_ ?_)<;>exact pre)|exact sideG)|apply rR|apply rE|apply rH|(apply cD<;>intro hb<;>(try simp only[SPLT]at hb)<;>try exact noB))
     all_goals try exact false
     ·rw [listT_no hz (fun h=>by rcases hb with g|g;exact g h.1;exact g h.2)] at hac
      refine ⟨(m+1,ac),⟨by dsimp only;omega,hac⟩,by dsimp only;omega,?_⟩
      exact finF
     ·rename_i g1 g2
      rw [listT_yes hz g2.1 g2.2] at hac
      have hsg:segTexts t1 els1 el pt = [tag]:=by unfold segTexts;rw [if_pos hb,g2.2]
      rw [hsg,List.append_assoc,← List.append_assoc] at hac
      refine ⟨(m+1,ac ++ [tag]),⟨by dsimp only;omega,hac⟩,by dsimp only;omega,?_⟩
      (conv=>whnf)
      refine ⟨?_,by rfl⟩
      repeat' ((conv=>whnf);first|exact endF|(exact DLe.of_eq (congrArg (D.sl 1 1) (by rw [List.map_append];rfl)))|exact endF2|with_reducible apply dC)
     ·rename_i g1 g2 g3
      rw [listT_yes hz g2.1 g2.2] at hac
      have hsg:segTexts t1 els1 el pt = []:=by
       unfold segTexts
       rw [if_neg g3,List.getElem?_eq_none_iff.2 (by omega)]
      rw [hsg,List.nil_append] at hac
      refine ⟨(m+1,ac),⟨by dsimp only;omega,hac⟩,by dsimp only;omega,?_⟩
      exact finF
     ·rename_i g1 g2 g3
      have hx:=hx (by omega) (by omega)
      rw [listT_yes hz g2.1 g2.2] at hac
      have hsg:segTexts t1 els1 el pt=elTexts pt e:=by
       unfold segTexts
       rw [if_neg g3,hx]
       rfl
      rw [hsg,List.append_assoc] at hac
      have hnE:=hne e (gMem hx)
      have hef:=hnE.few
      have hem:(e.map repR).length=e.length:=List.length_map _
      generalize hrest2:listTexts tag el pt (l.drop (m+1))++rest=rest2 at hac
      refine loop_go (M:=fun t=>mem t [1000044,1000045,1000084]) hT hM (fun x:Nat × List Str => [(65,.int .i64 x.1),(5,.sl 1 1 (x.2.map fun s => [.str s]))]) (fun x=>x.1≤e.length∧x.2++(elTexts pt (e.drop x.1)++rest2)=R) (fun x=>e.length - x.1) ((0,ac)) ?_ ?_ ?_
      ·exact finF
      ·exact ⟨Nat.zero_le _,by simpa using hac⟩
      ·rintro ⟨j,a⟩ ⟨hj,ha⟩
       dsimp only at hj ha ⊢
       have hal:a.length≤10000000:=by
        have:=congrArg List.length ha
        rw [List.length_append] at this
        omega
       cases hw:e[j]? with
       |none=>
        have hm3:=List.getElem?_eq_none_iff.1 hw
        rw [List.drop_of_length_le hm3,show elTexts pt [] = [] from rfl,List.nil_append] at ha
        repeat'((conv=>whnf);first|(try(first|apply eN|apply eI|apply eC);conv=>whnf);apply sD;(focus(try intro hc;have hc0:=hc;(try simp only[SPLT]at hc);try refine and0 ?_);first|(refine gx (kidsOf_sem ?_ ?_ ?_ ?_)<;>exact pre)|(refine gx (textAt_sem ?_ ?_ ?_ ?_ ?_ ?_ ?_ ?_ ?_ ?_ ?_ ?_ ?_ ?_)<;>exact pre)|exact sideG)|apply rR|apply rE|apply rH|(apply cD<;>intro hb<;>(try simp only[SPLT]at hb)<;>try exact noB))
        all_goals try exact false
        refine ⟨(m+1,a),⟨by dsimp only;omega,?_⟩,by dsimp only;omega,?_⟩
        ·dsimp only
         rw [hrest2]
         exact ha
        ·exact finF
       |some p=>
        have hlj:=(gLt hw)
        have ht:=textAt_sem t1 els1 el j (max pt 1) e p hx hw (by omega) (by omega) (by omega) (by omega) (by omega)
        rw [elTexts_at hw] at ha
        generalize p[(max pt 1 - 1).toNat]?.getD []=s at ht ha
        generalize (p[(max pt 1 - 1).toNat]?).isSome=sb at ht
        repeat'((conv=>whnf);first|(try(first|apply eN|apply eI|apply eC);conv=>whnf);apply sD;(focus(try intro hc;have hc0:=hc;(try simp only[SPLT]at hc);try refine and0 ?_);first|exact gx ht|(refine gx (kidsOf_sem ?_ ?_ ?_ ?_)<;>exact pre)|(refine gx (textAt_sem ?_ ?_ ?_ ?_ ?_ ?_ ?_ ?_ ?_ ?_ ?_ ?_ ?_ ?_)<;>exact pre)|exact sideG)|apply rR|apply rE|apply rH|(apply cD<;>intro hb<;>(try simp only[SPLT]at hb)<;>try exact noB))
        all_goals try exact false
        ·rw [if_neg hb,List.cons_append,List.append_cons] at ha
         refine ⟨(j+1,a ++ [s]),⟨by dsimp only;omega,ha⟩,by dsimp only;omega,?_⟩
         (conv=>whnf)
         refine ⟨?_,by rfl⟩
         repeat' ((conv=>whnf);first|exact endF|(exact DLe.of_eq (congrArg (D.sl 1 1) (by rw [List.map_append];rfl)))|exact endF2|with_reducible apply dC)
        ·rw [if_pos hb] at ha
         refine ⟨(j+1,a),⟨by dsimp only;omega,ha⟩,by dsimp only;omega,?_⟩
         exact finF
set_option maxHeartbeats 1000000
theorem indexFuncT_sem (l:List Str) (f:Nat) (cp:List D) (q:Str→Bool) (hq:∀ a ∈ l,Sem Tryz.prog f [.str a,.ptr cp] (.bool (q a))):Sem Tryz.prog 93 [.sl 0 1 (l.map fun s => [.str s]),.fn f [.ptr cp]] (.int .i64 (idxG q l 0)):=by
 refine sem_len 0 rfl rfl fun hl => ?_
 rw [List.length_map] at hl
 have hll:(l.map fun s => [D.str s]).length=l.length:=List.length_map _
 refine si [1000044,1000045,1000084] Tryz.func93 ?_
 repeat'((conv=>whnf);first|(try(first|apply eN|apply eI|apply eC);conv=>whnf);apply sD;(focus first|exact side)|apply rR|apply rE|apply rH|(apply cD<;>intro hb<;>(try simp only[SPLT]at hb)<;>try exact noB))
 all_goals try exact false
 refine loop_go (M:=fun t=>mem t [1000044,1000045,1000084]) hT hM (fun k:Nat => [(8,.int .i64 k)]) (fun k=>k≤l.length∧idxG q (l.drop k) k=idxG q l 0) (fun k=>l.length - k) (0) ?_ ?_ ?_
 ·exact finF
 ·exact ⟨Nat.zero_le _,rfl⟩
 ·rintro k ⟨hk,hi⟩
  rcases hx:l[k]? with _|a
  ·have hk':k=l.length:=by have:=List.getElem?_eq_none_iff.1 hx;omega
   subst hk'
   rw [List.drop_length] at hi
   repeat'((conv=>whnf);first|(try(first|apply eN|apply eI|apply eC);conv=>whnf);apply sD;(focus first|exact side)|apply rR|apply rE|apply rH|(apply cD<;>intro hb<;>(try simp only[SPLT]at hb)<;>try exact noB))
   all_goals try exact false
   repeat' ((conv=>whnf);first|exact endR|with_reducible first|apply And.intro|apply oR|apply oN|apply dC)
   all_goals (conv=>whnf)
   exact rle_int hi
  ·have hlt:=(gLt hx)
   have hc:=hq a (gMem hx)
   rw [idxG_at hx] at hi
   generalize q a=b at hc hi
   repeat'((conv=>whnf);first|(try(first|apply eN|apply eI|apply eC);conv=>whnf);apply sD;(focus first|exact gx hc|exact side)|apply rR|apply rE|apply rH|(apply cD<;>intro hb<;>(try simp only[SPLT]at hb)<;>try exact noB))
   all_goals try exact false
   ·repeat' ((conv=>whnf);first|exact endR|with_reducible first|apply And.intro|apply oR|apply oN|apply dC)
    all_goals (conv=>whnf)
    exact rle_int (by rw [← hi,if_pos hb])
   ·refine ⟨k+1,⟨by omega,by rw [← hi,if_neg (by simp [hb])]⟩,by omega,?_⟩
    exact finF
theorem containsFuncT_sem (l:List Str) (f:Nat) (cp:List D) (q:Str→Bool) (hq:∀ a ∈ l,Sem Tryz.prog f [.str a,.ptr cp] (.bool (q a))):Sem Tryz.prog 55 [.sl 0 1 (l.map fun s => [.str s]),.fn f [.ptr cp]] (.bool (l.any q)):=by
 have hI:=indexFuncT_sem l f cp q hq
 refine si [1000044,1000045,1000084] Tryz.func55 ?_
 repeat'((conv=>whnf);first|(try(first|apply eN|apply eC);conv=>whnf);apply sD;(focus first|exact gx hI|(refine gx (indexFuncT_sem ?_ ?_ ?_ ?_ ?_)<;>exact pre)|(refine gx (indexFuncS_sem ?_ ?_ ?_ ?_ ?_)<;>exact pre)|exact side)|apply rR|apply rE|apply rH|(apply cD<;>intro hb<;>(try simp only[SPLT]at hb)<;>try exact noB))
 all_goals try exact false
 repeat' ((conv=>whnf);first|exact endR|with_reducible first|apply And.intro|apply oR|apply oN|apply dC)
 all_goals (conv=>whnf)
 exact rle_bool (idxG_any q l 0 (by omega))
theorem indexFuncL_sem (l:List (List Br)) (f:Nat) (cp:List D) (q:List Br→Bool) (hq:∀ a ∈ l,Sem Tryz.prog f [.sl 0 4 (a.map Br.row),.ptr cp] (.bool (q a))):Sem Tryz.prog 85 [.sl 0 1 (l.map klR),.fn f [.ptr cp]] (.int .i64 (idxG q l 0)):=by
 refine sem_len 0 rfl rfl fun hl => ?_
 rw [List.length_map] at hl
 have hll:(l.map klR).length=l.length:=List.length_map _
 refine si [1000044,1000045,1000084] Tryz.func85 ?_
 repeat'((conv=>whnf);first|(try(first|apply eN|apply eI|apply eC);conv=>whnf);apply sD;(focus first|exact side)|apply rR|apply rE|apply rH|(apply cD<;>intro hb<;>(try simp only[SPLT]at hb)<;>try exact noB))
 all_goals try exact false
 refine loop_go (M:=fun t=>mem t [1000044,1000045,1000084]) hT hM (fun k:Nat => [(8,.int .i64 k)]) (fun k=>k≤l.length∧idxG q (l.drop k) k=idxG q l 0) (fun k=>l.length - k) (0) ?_ ?_ ?_
 ·exact finF
 ·exact ⟨Nat.zero_le _,rfl⟩
 ·rintro k ⟨hk,hi⟩
  rcases hx:l[k]? with _|a
  ·have hk':k=l.length:=by have:=List.getElem?_eq_none_iff.1 hx;omega
   subst hk'
   rw [List.drop_length] at hi
   repeat'((conv=>whnf);first|(try(first|apply eN|apply eI|apply eC);conv=>whnf);apply sD;(focus first|exact side)|apply rR|apply rE|apply rH|(apply cD<;>intro hb<;>(try simp only[SPLT]at hb)<;>try exact noB))
   all_goals try exact false
   repeat' ((conv=>whnf);first|exact endR|with_reducible first|apply And.intro|apply oR|apply oN|apply dC)
   all_goals (conv=>whnf)
   exact rle_int hi
  ·have hlt:=(gLt hx)
   have hc:=hq a (gMem hx)
   rw [idxG_at hx] at hi
   generalize q a=b at hc hi
   repeat'((conv=>whnf);first|(try(first|apply eN|apply eI|apply eC);conv=>whnf);apply sD;(focus first|(exact idx_kl hx rfl)|exact gx hc|exact side)|apply rR|apply rE|apply rH|(apply cD<;>intro hb<;>(try simp only[SPLT]at hb)<;>try exact noB))
   all_goals try exact false
   ·repeat' ((conv=>whnf);first|exact endR|with_reducible first|apply And.intro|apply oR|apply oN|apply dC)
    all_goals (conv=>whnf)
    exact rle_int (by rw [← hi,if_pos hb])
   ·refine ⟨k+1,⟨by omega,by rw [← hi,if_neg (by simp [hb])]⟩,by omega,?_⟩
    exact finF
theorem containsFuncL_sem (l:List (List Br)) (f:Nat) (cp:List D) (q:List Br→Bool) (hq:∀ a ∈ l,Sem Tryz.prog f [.sl 0 4 (a.map Br.row),.ptr cp] (.bool (q a))):Sem Tryz.prog 49 [.sl 0 1 (l.map klR),.fn f [.ptr cp]] (.bool (l.any q)):=by
 have hI:=indexFuncL_sem l f cp q hq
 refine si [1000044,1000045,1000084] Tryz.func49 ?_
 repeat'((conv=>whnf);first|(try(first|apply eN|apply eC);conv=>whnf);apply sD;(focus first|exact gx hI|(refine gx (indexFuncL_sem ?_ ?_ ?_ ?_ ?_)<;>exact pre)|exact side)|apply rR|apply rE|apply rH|(apply cD<;>intro hb<;>(try simp only[SPLT]at hb)<;>try exact noB))
 all_goals try exact false
 repeat' ((conv=>whnf);first|exact endR|with_reducible first|apply And.intro|apply oR|apply oN|apply dC)
 all_goals (conv=>whnf)
 exact rle_bool (idxG_any q l 0 (by omega))
set_option maxHeartbeats 4000000
def insA (n:Str) (ns:List Str) (l:List Br):List (List Br):=(l.filter fun b=>b.name == n).flatMap fun b=>inside1 ns b.kids
theorem insA_yes {n n1 t:Str} {ns:List Str} {els:List El} {ks:List Br} {l:List Br} {m:Nat} (h:l[m]?=some (.mk n1 t els ks)) (e:n1=n):insA n ns (l.drop m)=inside1 ns ks++insA n ns (l.drop (m+1)):=by
 unfold insA
 rw [List.drop_eq_getElem_cons (gLt h),(List.getElem?_eq_some_iff.1 h).2,List.filter_cons,if_pos (by simpa [Br.name] using e),List.flatMap_cons]
 rfl
theorem insA_no {n n1 t:Str} {ns:List Str} {els:List El} {ks:List Br} {l:List Br} {m:Nat} (h:l[m]?=some (.mk n1 t els ks)) (e:¬ n1=n):insA n ns (l.drop m)=insA n ns (l.drop (m+1)):=by
 unfold insA
 rw [List.drop_eq_getElem_cons (gLt h),(List.getElem?_eq_some_iff.1 h).2,List.filter_cons,if_neg (by simpa [Br.name] using e)]
theorem inside3_sem (ns:List Str):∀ l:List Br,Br.sizes l≤100000→Sem Tryz.prog 63 [.sl 0 4 (l.map Br.row),.sl 0 1 (ns.map fun s => [.str s])] (.sl 0 1 ((inside1 ns l).map klR)):=by
 induction ns with
 |nil=>
  intro l hs
  rw [inside1]
  refine si [1000044,1000045,1000084] Tryz.func63 ?_
  repeat'((conv=>whnf);first|(try(first|apply eN|apply eI|apply eC);conv=>whnf);apply sD;(focus first|exact side)|(first|apply dG|apply kB);kernel_rfl|apply rR|apply rE|apply rH|(apply cD<;>intro hb<;>(try simp only[SPLT]at hb)<;>try exact noB))
  all_goals try exact false
  exact finR
 |cons n ns ih=>
  intro l hs
  have hll:(l.map Br.row).length=l.length:=List.length_map _
  have hlsz:=blen_sizes l
  have hin:=inside_sz (n::ns) l
  have hln:=lszs_len (inside1 (n::ns) l)
  have hR:insA n ns l=inside1 (n::ns) l:=rfl
  generalize inside1 (n::ns) l=R at hin hln hR ⊢
  have hnl:((n::ns).map fun s => [D.str s]).length=ns.length+1:=by simp
  refine si [1000044,1000045,1000084] Tryz.func63 ?_
  repeat'((conv=>whnf);first|(try(first|apply eN|apply eI|apply eC);conv=>whnf);apply sD;(focus first|exact side)|(first|apply dG|apply kB);kernel_rfl|apply rR|apply rE|apply rH|(apply cD<;>intro hb<;>(try simp only[SPLT]at hb)<;>try exact noB))
  all_goals try exact false
  refine loop_go (M:=fun t=>mem t [1000044,1000045,1000084]) hT hM (fun x:Nat × List (List Br) => [(6,.int .i64 x.1),(5,.sl 1 1 (x.2.map klR))]) (fun x=>x.1≤l.length∧x.2++insA n ns (l.drop x.1)=R) (fun x=>l.length - x.1) ((0,[])) ?_ ?_ ?_
  ·(conv=>whnf)
   refine ⟨?_,by rfl⟩
   repeat' ((conv=>whnf);first|exact endF|(exact dle_nil rfl)|exact endF2|with_reducible apply dC)
  ·exact ⟨Nat.zero_le _,by simpa using hR⟩
  ·rintro ⟨i,acc⟩ ⟨hi,hacc⟩
   dsimp only at hi hacc ⊢
   cases hx:l[i]? with
   |none=>
    have hm:=List.getElem?_eq_none_iff.1 hx
    rw [List.drop_of_length_le hm] at hacc
    have hacc:acc=R:=by simpa [insA] using hacc
    subst hacc
    repeat'((conv=>whnf);first|(try(first|apply eN|apply eI|apply eC);conv=>whnf);apply sD;(focus first|exact side)|(first|apply dG|apply kB);kernel_rfl|apply rR|apply rE|apply rH|(apply cD<;>intro hb<;>(try simp only[SPLT]at hb)<;>try exact noB))
    all_goals try exact false
    exact finR
   |some b=>
    have hlt:=(gLt hx)
    have hbs:=bmem_sizes (gMem hx)
    obtain ⟨n1,t1,els1,ks1⟩:=b
    rw [bsize_mk] at hbs
    by_cases e:n1=n
    ·subst e
     rw [insA_yes hx rfl] at hacc
     have hrec:=ih ks1 (by omega)
     have e1:List.drop (Int.toNat 1) (List.take (Int.toNat (((n1::ns).map fun s => [D.str s]).length:Int)) ((n1::ns).map fun s => [D.str s]))=ns.map fun s => [D.str s]:=by
      rw [Int.toNat_natCast,List.take_length]
      rfl
     rw [← e1] at hrec
     clear e1
     generalize inside1 ns ks1=more at hacc hrec
     have hal:=congrArg List.length hacc
     rw [List.length_append,List.length_append] at hal
     have hml:(more.map klR).length=more.length:=List.length_map _
     repeat'((conv=>whnf);first|(try(first|apply eN|apply eI|apply eC);conv=>whnf);apply sD;(focus first|(exact idx_br hx rfl)|(exact idx_eq (f:=fun s => [D.str s]) (l:=n1::ns) (j:=0) rfl rfl)|exact gx hrec|exact side)|(first|apply dG|apply kB);kernel_rfl|apply rR|apply rE|apply rH|(apply cD<;>intro hb<;>(try simp only[SPLT]at hb)<;>try exact noB))
     all_goals try exact false
     refine ⟨(i+1,acc++more),⟨by dsimp only;omega,by rw [List.append_assoc];exact hacc⟩,by dsimp only;omega,?_⟩
     (conv=>whnf)
     refine ⟨?_,by rfl⟩
     repeat' ((conv=>whnf);first|exact endF|(exact DLe.of_eq (congrArg (D.sl 1 1) (by rw [List.map_append])))|exact endF2|with_reducible apply dC)
    ·rw [insA_no hx e] at hacc
     repeat'((conv=>whnf);first|(try(first|apply eN|apply eI|apply eC);conv=>whnf);apply sD;(focus first|(exact idx_br hx rfl)|(exact idx_eq (f:=fun s => [D.str s]) (l:=n::ns) (j:=0) rfl rfl)|exact side)|(first|apply dG|apply kB);kernel_rfl|apply rR|apply rE|apply rH|((apply cD)<;>intro hb<;>(try simp only [SPLT] at hb)<;>(try first|exact noB|(exact absurd hb e;done))))
     all_goals try exact false
     refine ⟨(i+1,acc),⟨by dsimp only;omega,hacc⟩,by dsimp only;omega,?_⟩
     exact finF
theorem textsOf_sem (t:Str) (els:List El) (ns:List (List D)) (tag:Str) (el pt:Int) (hn:∀ e ∈ els,NarE e) (hl:els.length≤50) (he0:0≤el) (he1:el≤1000) (hp0:0≤pt) (hp1:pt≤1000):
  Sem Tryz.prog 104 [.agg [.str t,.sl 0 1 (els.map elR)],.agg [.sl 0 1 ns,.str tag,.int .i64 el,.int .i64 pt]] (.sl 0 1 ((segTexts t els el pt).map fun s => [.str s])):=by
 have helm:(els.map elR).length=els.length:=List.length_map _
 by_cases h0:el=0
 ·subst h0
  have:segTexts t els 0 pt = [t]:=by unfold segTexts;rw [if_pos rfl]
  rw [this]
  refine si [1000044,1000045,1000084] Tryz.func104 ?_
  repeat'((conv=>whnf);first|(try(first|apply eN|apply eI|apply eC);conv=>whnf);apply sD;(focus(try intro hc;have hc0:=hc;(try simp only[SPLT]at hc);try refine and0 ?_);first|exact sideG)|apply rR|apply rE|apply rH|(apply cD<;>intro hb<;>(try simp only[SPLT]at hb)<;>try exact noB))
  all_goals try exact false
  exact finR
 ·by_cases hlen:els.length < el
  ·have:segTexts t els el pt = []:=by unfold segTexts;rw [if_neg h0,List.getElem?_eq_none_iff.2 (by omega)]
   rw [this]
   refine si [1000044,1000045,1000084] Tryz.func104 ?_
   repeat'((conv=>whnf);first|(try(first|apply eN|apply eI|apply eC);conv=>whnf);apply sD;(focus(try intro hc;have hc0:=hc;(try simp only[SPLT]at hc);try refine and0 ?_);first|exact sideG)|apply rR|apply rE|apply rH|((apply cD)<;>intro hb<;>(try simp only [SPLT] at hb)<;>(try first|exact noB|(omega;done))))
   all_goals try exact false
   exact finR
  ·obtain ⟨e,hx⟩:∃ e:El,els[(el - 1).toNat]?=some e:=⟨_,List.getElem?_eq_getElem (by omega)⟩
   have hsg:segTexts t els el pt=elTexts pt e:=by
    unfold segTexts
    rw [if_neg h0,hx]
    rfl
   have hnE:=hn e (gMem hx)
   have hef:=hnE.few
   have hem:(e.map repR).length=e.length:=List.length_map _
   have hok:=(segTexts_ok (t := []) (els:=els) (el:=el) (pt:=pt) (by simp) hn).1
   have hsg':segTexts [] els el pt=elTexts pt e:=by
    unfold segTexts
    rw [if_neg h0,hx]
    rfl
   rw [hsg'] at hok
   rw [hsg]
   generalize hR:elTexts pt e=R at hok ⊢
   refine si [1000044,1000045,1000084] Tryz.func104 ?_
   repeat'((conv=>whnf);first|(try(first|apply eN|apply eI|apply eC);conv=>whnf);apply sD;(focus(try intro hc;have hc0:=hc;(try simp only[SPLT]at hc);try refine and0 ?_);first|(exact idx_el hx (by omega))|exact sideG)|apply rR|apply rE|apply rH|((apply cD)<;>intro hb<;>(try simp only [SPLT] at hb)<;>(try first|exact noB|(omega;done))))
   all_goals try exact false
   refine loop_go (M:=fun t=>mem t [1000044,1000045,1000084]) hT hM (fun x:Nat × List Str => [(8,.int .i64 x.1),(5,.sl 1 1 (x.2.map fun s => [.str s]))]) (fun x=>x.1≤e.length∧x.2++elTexts pt (e.drop x.1)=R) (fun x=>e.length - x.1) ((0,[])) ?_ ?_ ?_
   ·(conv=>whnf)
    refine ⟨?_,by rfl⟩
    repeat' ((conv=>whnf);first|exact endF|(exact dle_nil rfl)|exact endF2|with_reducible apply dC)
   ·exact ⟨Nat.zero_le _,by simpa using hR⟩
   ·rintro ⟨j,a⟩ ⟨hj,ha⟩
    dsimp only at hj ha ⊢
    have hal:a.length≤20:=by
     have:=congrArg List.length ha
     rw [List.length_append] at this
     omega
    cases hw:e[j]? with
    |none=>
     have hm3:=List.getElem?_eq_none_iff.1 hw
     rw [List.drop_of_length_le hm3,show elTexts pt [] = [] from rfl,List.append_nil] at ha
     subst ha
     repeat'((conv=>whnf);first|(try(first|apply eN|apply eI|apply eC);conv=>whnf);apply sD;(focus(try intro hc;have hc0:=hc;(try simp only[SPLT]at hc);try refine and0 ?_);first|exact sideG)|apply rR|apply rE|apply rH|(apply cD<;>intro hb<;>(try simp only[SPLT]at hb)<;>try exact noB))
     all_goals try exact false
     exact finR
    |some p=>
     have hlj:=(gLt hw)
     have hpm:(p.map partR).length=p.length:=List.length_map _
     rw [elTexts_at hw] at ha
     obtain ⟨s,hs⟩:∃ s,max pt 1≤p.length→p[(max pt 1 - 1).toNat]?=some s:=⟨p[(max pt 1 - 1).toNat]?.getD [],fun h=>by rw [List.getElem?_eq_getElem (by omega)];rfl⟩
     repeat'((conv=>whnf);first|(try(first|apply eN|apply eI|apply eC);conv=>whnf);apply sD;(focus(try intro hc;have hc0:=hc;(try simp only[SPLT]at hc);try refine and0 ?_);first|(exact idx_rep hw rfl)|(exact idx_str (hs (by omega)) (by omega))|exact sideG)|apply rR|apply rE|apply rH|(apply cD<;>intro hb<;>(try simp only[SPLT]at hb)<;>try exact noB))
     all_goals try exact false
     ·obtain ⟨g1,g2⟩:=hb
      rw [hs (by omega)] at ha
      rw [show (some s).getD []=s from rfl,if_neg g2,List.append_cons] at ha
      refine ⟨(j+1,a ++ [s]),⟨by dsimp only;omega,ha⟩,by dsimp only;omega,?_⟩
      (conv=>whnf)
      refine ⟨?_,by rfl⟩
      repeat' ((conv=>whnf);first|exact endF|(exact DLe.of_eq (congrArg (D.sl 1 1) (by rw [List.map_append];rfl)))|exact endF2|with_reducible apply dC)
     ·have hq:p[(max pt 1 - 1).toNat]?.getD [] = []:=by
       by_cases g:max pt 1≤p.length
       ·rw [hs g]
        show s = []
        rcases hb with h|h
        ·omega
        ·exact h
       ·rw [List.getElem?_eq_none_iff.2 (by omega)];rfl
      rw [if_pos hq] at ha
      refine ⟨(j+1,a),⟨by dsimp only;omega,ha⟩,by dsimp only;omega,?_⟩
      exact finF
theorem findIn_sem (tree:List Br) (ns:List Str) (tag:Str) (el pt:Int) (hs:Br.sizes tree≤100000) (hn:∀ b ∈ tree,b.Nar) (he0:0≤el) (he1:el≤1000) (hp0:0≤pt) (hp1:pt≤1000):
  Sem Tryz.prog 65 [.sl 0 4 (tree.map Br.row),.agg [.sl 0 1 (ns.map fun s => [.str s]),.str tag,.int .i64 el,.int .i64 pt]] (.sl 0 1 ((findTexts ns tag el pt tree).map fun s => [.str s])):=by
 have h1:=inside3_sem ns tree hs
 have hok:=(findTexts_ok (ns:=ns) (tag:=tag) (el:=el) (pt:=pt) hn hs).1
 have hin:=inside_nar ns tree hn
 have hsz:=inside_sz ns tree
 have ht:=fun t els g1 g2=>textsOf_sem t els (ns.map fun s => [.str s]) tag el pt g1 g2 he0 he1 hp0 hp1
 unfold findTexts at hok ⊢
 generalize inside1 ns tree=ls at h1 hok hin hsz ⊢
 have hlsl:(ls.map klR).length=ls.length:=List.length_map _
 have hlsz:=lszs_len ls
 generalize hR:ls.flatMap (listTexts tag el pt)=R at hok ⊢
 generalize (ns.map fun s => [D.str s])=nr at h1 ht ⊢
 refine si [1000044,1000045,1000084] Tryz.func65 ?_
 repeat'((conv=>whnf);first|(try(first|apply eN|apply eI|apply eC);conv=>whnf);apply sD;(focus(try intro hc;have hc0:=hc;(try simp only[SPLT]at hc);try refine and0 ?_);first|exact gx h1|(refine gx (textsOf_sem ?_ ?_ ?_ ?_ ?_ ?_ ?_ ?_ ?_ ?_ ?_ ?_)<;>exact pre)|exact sideG)|(first|apply dG|apply kB);kernel_rfl|apply rR|apply rE|apply rH|(apply cD<;>intro hb<;>(try simp only[SPLT]at hb)<;>try exact noB))
 all_goals try exact false
 refine loop_go (M:=fun t=>mem t [1000044,1000045,1000084]) hT hM (fun x:Nat × List Str => [(14,.int .i64 x.1),(5,.sl 1 1 (x.2.map fun s => [.str s]))]) (fun x=>x.1≤ls.length∧x.2++(ls.drop x.1).flatMap (listTexts tag el pt)=R) (fun x=>ls.length - x.1) ((0,[])) ?_ ?_ ?_
 ·(conv=>whnf)
  refine ⟨?_,by rfl⟩
  repeat' ((conv=>whnf);first|exact endF|(exact dle_nil rfl)|exact endF2|with_reducible apply dC)
 ·exact ⟨Nat.zero_le _,by simpa using hR⟩
 ·rintro ⟨k,acc⟩ ⟨hk,hacc⟩
  dsimp only at hk hacc ⊢
  cases hy:ls[k]? with
  |none=>
   have hm:=List.getElem?_eq_none_iff.1 hy
   rw [List.drop_of_length_le hm] at hacc
   have hacc:acc=R:=by simpa using hacc
   subst hacc
   repeat'((conv=>whnf);first|(try(first|apply eN|apply eI|apply eC);conv=>whnf);apply sD;(focus(try intro hc;have hc0:=hc;(try simp only[SPLT]at hc);try refine and0 ?_);first|(refine gx (textsOf_sem ?_ ?_ ?_ ?_ ?_ ?_ ?_ ?_ ?_ ?_ ?_ ?_)<;>exact pre)|exact sideG)|(first|apply dG|apply kB);kernel_rfl|apply rR|apply rE|apply rH|(apply cD<;>intro hb<;>(try simp only[SPLT]at hb)<;>try exact noB))
   all_goals try exact false
   exact finR
  |some l=>
   have hlk:=(gLt hy)
   rw [flatF_at hy] at hacc
   have hll:(l.map Br.row).length=l.length:=List.length_map _
   have hlsz2:=blen_sizes l
   have hlm:=lszs_mem (gMem hy)
   have hnl:=hin l (gMem hy)
   generalize hrest:(ls.drop (k+1)).flatMap (listTexts tag el pt)=rest at hacc
   repeat'((conv=>whnf);first|(try(first|apply eN|apply eI|apply eC);conv=>whnf);apply sD;(focus(try intro hc;have hc0:=hc;(try simp only[SPLT]at hc);try refine and0 ?_);first|(exact idx_kl hy rfl)|(refine gx (textsOf_sem ?_ ?_ ?_ ?_ ?_ ?_ ?_ ?_ ?_ ?_ ?_ ?_)<;>exact pre)|exact sideG)|(first|apply dG|apply kB);kernel_rfl|apply rR|apply rE|apply rH|(apply cD<;>intro hb<;>(try simp only[SPLT]at hb)<;>try exact noB))
   all_goals try exact false
   refine loop_go (M:=fun t=>mem t [1000044,1000045,1000084]) hT hM (fun x:Nat × List Str => [(8,.int .i64 x.1),(5,.sl 1 1 (x.2.map fun s => [.str s]))]) (fun x=>x.1≤l.length∧x.2++(listTexts tag el pt (l.drop x.1)++rest)=R) (fun x=>l.length - x.1) ((0,acc)) ?_ ?_ ?_
   ·exact finF
   ·exact ⟨Nat.zero_le _,by simpa using hacc⟩
   ·rintro ⟨m,ac⟩ ⟨hmm,hac⟩
    dsimp only at hmm hac ⊢
    cases hz:l[m]? with
    |none=>
     have hm2:=List.getElem?_eq_none_iff.1 hz
     rw [List.drop_of_length_le hm2] at hac
     repeat'((conv=>whnf);first|(try(first|apply eN|apply eI|apply eC);conv=>whnf);apply sD;(focus(try intro hc;have hc0:=hc;(try simp only[SPLT]at hc);try refine and0 ?_);first|(refine gx (textsOf_sem ?_ ?_ ?_ ?_ ?_ ?_ ?_ ?_ ?_ ?_ ?_ ?_)<;>exact pre)|exact sideG)|(first|apply dG|apply kB);kernel_rfl|apply rR|apply rE|apply rH|(apply cD<;>intro hb<;>(try simp only[SPLT]at hb)<;>try exact noB))
     all_goals try exact false
     refine ⟨(k+1,ac),⟨by dsimp only;omega,?_⟩,by dsimp only;omega,?_⟩
     ·dsimp only
      rw [hrest]
      rw [show listTexts tag el pt [] = [] from rfl,List.nil_append] at hac
      exact hac
     ·exact finF
    |some b=>
     have hlm2:=(gLt hz)
     have hnb:=hnl b (gMem hz)
     obtain ⟨n1,t1,els1,ks1⟩:=b
     obtain ⟨htl,hel,hne,_⟩:=hnb
     have ht':=ht t1 els1 hne hel
     by_cases hq:n1 = []∧t1=tag
     ·have hqn:¬ n1 = []∨¬ t1=tag→False:=fun h=>h.elim (fun g=>g hq.1) (fun g=>g hq.2)
      rw [listT_yes hz hq.1 hq.2,List.append_assoc,← List.append_assoc] at hac
      generalize segTexts t1 els1 el pt=more at hac ht'
      have hal:=congrArg List.length hac
      rw [List.length_append,List.length_append] at hal
      have hml:(more.map fun s => [D.str s]).length=more.length:=List.length_map _
      have hacm:(ac.map fun s => [D.str s]).length=ac.length:=List.length_map _
      repeat'((conv=>whnf);first|(try(first|apply eN|apply eI|apply eC);conv=>whnf);apply sD;(focus(try intro hc;have hc0:=hc;(try simp only[SPLT]at hc);try refine and0 ?_);first|(exact idx_br hz rfl)|exact gx ht' | (refine gx (textsOf_sem ?_ ?_ ?_ ?_ ?_ ?_ ?_ ?_ ?_ ?_ ?_ ?_)<;>exact pre)|exact sideG)|(first|apply dG|apply kB);kernel_rfl|apply rR|apply rE|apply rH|((apply cD)<;>intro hb<;>(try simp only [SPLT] at hb)<;>(try first|exact noB|((exact hqn hb;done);done))))
      all_goals try exact false
      refine ⟨(m+1,ac++more),⟨by dsimp only;omega,hac⟩,by dsimp only;omega,?_⟩
      (conv=>whnf)
      refine ⟨?_,by rfl⟩
      repeat' ((conv=>whnf);first|exact endF|(exact DLe.of_eq (congrArg (D.sl 1 1) (by rw [List.map_append])))|exact endF2|with_reducible apply dC)
     ·rw [listT_no hz hq] at hac
      repeat'((conv=>whnf);first|(try(first|apply eN|apply eI|apply eC);conv=>whnf);apply sD;(focus(try intro hc;have hc0:=hc;(try simp only[SPLT]at hc);try refine and0 ?_);first|(exact idx_br hz rfl)|(refine gx (textsOf_sem ?_ ?_ ?_ ?_ ?_ ?_ ?_ ?_ ?_ ?_ ?_ ?_)<;>exact pre)|exact sideG)|(first|apply dG|apply kB);kernel_rfl|apply rR|apply rE|apply rH|((apply cD)<;>intro hb<;>(try simp only [SPLT] at hb)<;>(try first|exact noB|(exact absurd hb hq;done))))
      all_goals try exact false
      refine ⟨(m+1,ac),⟨by dsimp only;omega,hac⟩,by dsimp only;omega,?_⟩
      exact finF
end Go.Proofs.YtnlbekongmkmjaaGreatDoor
