/- Lists within right trees are right (plain). Right trees are narrow: few repeats, short texts (plain). Texts that are found in trees: the program (walks). Search with functions that were made: texts, lists of branches (walks). -/
import Derived.Test.YtnlbekongmkmjaaGreatDoorZ23
import Derived.Test.YtnlbekongmkmjaaGreatDoorZ27
import Derived.Test.YtnlbekongmkmjaaGreatDoorZ16
namespace Go.Proofs.YtnlbekongmkmjaaGreatDoor
set_option linter.unusedSimpArgs false
set_option linter.unusedVariables false
open Go.RowKit
set_option maxRecDepth 100000
end Go.Proofs.YtnlbekongmkmjaaGreatDoor
namespace Go.Proofs.YtnlbekongmkmjaaGreatDoor
set_option linter.unusedSimpArgs false
set_option linter.unusedVariables false
open Go.RowKit
set_option maxRecDepth 100000
structure NarE (e:El):Prop where
 few:e.length≤20
 parts:∀ p ∈ e,1≤p.length∧p.length≤20
 texts:∀ p ∈ e,∀ s ∈ p,s.length≤1000
inductive Br.Nar:Br→Prop where
 | mk {n t:Str} {els:List El} {ks:List Br} (ht:t.length≤1000) (hl:els.length≤50) (h:∀ e ∈ els,NarE e) (hk:∀ x ∈ ks,x.Nar):(Br.mk n t els ks).Nar
theorem partsErr_ok:∀ l:List Str,partsErr l=0→∀ s ∈ l,s.length≤1000
 | [],_=>by simp
 | s::l,h=>by
  rw [partsErr] at h
  by_cases he:textErr s=0
  ·rw [if_neg (by simp [he])] at h
   intro x hx
   rcases List.mem_cons.1 hx with rfl|hx
   ·unfold textErr at he
    split at he
    ·cases he
    ·omega
   ·exact partsErr_ok l h x hx
  ·rw [if_pos he] at h
   exact absurd h he
theorem repsErr_ok:∀ l:List (List Str),repsErr l=0→∀ p ∈ l,(1≤p.length∧p.length≤20)∧∀ s ∈ p,s.length≤1000
 | [],_=>by simp
 | q::l,h=>by
  rw [repsErr] at h
  split at h
  ·cases h
  ·rename_i h1
   split at h
   ·cases h
   ·rename_i h2
    by_cases he:partsErr q=0
    ·rw [if_neg (by simp [he])] at h
     intro x hx
     rcases List.mem_cons.1 hx with rfl|hx
     ·exact ⟨⟨by omega,by omega⟩,partsErr_ok _ he⟩
     ·exact repsErr_ok l h x hx
    ·rw [if_pos he] at h
     exact absurd h he
theorem elErr_ok {e:El} (h:elErr e=0):NarE e:=by
 unfold elErr at h
 split at h
 ·cases h
 ·split at h
  ·cases h
  ·have h2:=repsErr_ok e h
   exact ⟨by omega,fun p hp=>(h2 p hp).1,fun p hp=>(h2 p hp).2⟩
theorem segElErr_ok:∀ l:List El,segElErr l=0→∀ e ∈ l,NarE e
 | [],_=>by simp
 | q::l,h=>by
  rw [segElErr] at h
  by_cases he:elErr q=0
  ·rw [if_neg (by simp [he])] at h
   intro x hx
   rcases List.mem_cons.1 hx with rfl|hx
   ·exact elErr_ok he
   ·exact segElErr_ok l h x hx
  ·rw [if_pos he] at h
   exact absurd h he
theorem segErr_ok {t:Str} {els:List El} (h:segErr t els=0):isTagB t=true∧els.length≤50∧∀ e ∈ els,NarE e:=by
 unfold segErr at h
 split at h
 ·cases h
 ·rename_i h1
  split at h
  ·cases h
  ·exact ⟨by simpa using h1,by omega,segElErr_ok els h⟩
theorem chks_nar {d:Int}:∀ (l:List Br),(∀ b ∈ l,∀ m,(b.chk d m).2=0→b.Nar)→∀ m,(Br.chks d m l).2=0→∀ b ∈ l,b.Nar
 | [],_,_,_=>by simp
 | b::l,hb,m,h=>by
  rw [bchks_cons] at h
  by_cases he:(b.chk d m).2=0
  ·rw [if_neg (by simp [he])] at h
   intro x hx
   rcases List.mem_cons.1 hx with rfl|hx
   ·exact hb _ (by simp) m he
   ·exact chks_nar l (fun y hy=>hb y (by simp [hy])) _ h x hx
  ·rw [if_pos he] at h
   exact absurd h he
theorem tag_short {t:Str} (h:isTagB t=true):t.length≤1000:=by
 unfold isTagB at h
 simp only [Bool.and_eq_true,decide_eq_true_eq] at h
 have:=h.1.1.2
 omega
theorem chk_nar (b:Br):∀ d m:Int,(b.chk d m).2=0→b.Nar:=by
 induction b using Br.ind with
 | h n t els ks ih=>
  intro d m h
  rw [bchk_mk] at h
  split at h
  ·cases h
  ·split at h
   ·cases h
   ·split at h
    ·cases h
    ·rename_i h3
     split at h
     ·cases h
     ·rename_i h4
      split at h
      ·rename_i h5
       obtain ⟨g1,g2,g3⟩:=segErr_ok h
       have hk:ks = []:=List.length_eq_zero_iff.1 (by simp only [h5,true_and] at h3;omega)
       exact .mk (tag_short g1) g2 g3 (by rw [hk];simp)
      ·rename_i h5
       have hb:t = []∧els.length=0:=Classical.byContradiction fun e=>h4 ⟨h5,.inl e⟩
       have he:els = []:=List.length_eq_zero_iff.1 hb.2
       exact .mk (by rw [hb.1];simp) (by omega) (by rw [he];simp) (chks_nar ks (fun c hc m hm=>ih c hc (d+1) m hm) _ h)
theorem tree_nar {l:List Br} (h:treeErr l=0):∀ b ∈ l,b.Nar:=chks_nar l (fun b _ m hm=>chk_nar b 0 m hm) 0 h
theorem inside_nar:∀ (ns:List Str) (l:List Br),(∀ b ∈ l,b.Nar)→∀ x ∈ inside1 ns l,∀ b ∈ x,b.Nar
 | [],l,h,x,hx=>by
  rw [inside1] at hx
  obtain rfl:=List.mem_singleton.1 hx
  exact h
 | n::ns,l,h,x,hx=>by
  rw [inside1] at hx
  obtain ⟨b,hb,hx⟩:=List.mem_flatMap.1 hx
  refine inside_nar ns b.kids (fun c hc => ?_) x hx
  have:=h b (List.mem_filter.1 hb).1
  obtain ⟨_,_,_,hk⟩:=this
  exact hk c hc
theorem inside_sz:∀ (ns:List Str) (l:List Br),lszs (inside1 ns l)≤1+Br.sizes l:=fun ns l=>by
 rw [← insideL_one]
 have key:∀ (ns:List Str) (ls:List (List Br)),lszs (insideL ns ls)≤lszs ls:=by
  intro ns
  induction ns with
  | nil=>intro ls;exact Nat.le_refl _
  | cons n ns ih=>
   intro ls
   rw [insideL_step]
   exact Nat.le_trans (ih _) (stepL_sz n ls)
 have:=key ns [l]
 simpa [lszs] using this
theorem segTexts_ok {t:Str} {els:List El} {el pt:Int} (ht:t.length≤1000) (h:∀ e ∈ els,NarE e):(segTexts t els el pt).length≤20∧∀ s ∈ segTexts t els el pt,s.length≤1000:=by
 unfold segTexts
 split
 ·exact ⟨by simp,fun s hs=>by obtain rfl:=List.mem_singleton.1 hs;exact ht⟩
 ·split
  ·exact ⟨by simp,by simp⟩
  ·rename_i e he
   have hn:=h e (List.mem_of_getElem? he)
   refine ⟨Nat.le_trans (List.length_filter_le _ _) (Nat.le_trans (List.length_filterMap_le _ _) hn.few),fun s hs => ?_⟩
   have hs:=(List.mem_filter.1 hs).1
   obtain ⟨p,hp,hq⟩:=List.mem_filterMap.1 hs
   exact hn.texts p hp s (List.mem_of_getElem? hq)
theorem listTexts_ok {tag:Str} {el pt:Int}:∀ (l:List Br),(∀ b ∈ l,b.Nar)→(listTexts tag el pt l).length≤20 * l.length∧∀ s ∈ listTexts tag el pt l,s.length≤1000
 | [],_=>by simp [listTexts]
 | ⟨n,t,els,ks⟩::l,h=>by
  obtain ⟨h1,h2⟩:=listTexts_ok (tag:=tag) (el:=el) (pt:=pt) l fun b hb=>h b (by simp [hb])
  obtain ⟨ht,_,he,_⟩:=h ⟨n,t,els,ks⟩ (by simp)
  obtain ⟨g1,g2⟩:=segTexts_ok (el:=el) (pt:=pt) ht he
  have e:listTexts tag el pt (⟨n,t,els,ks⟩::l)=(if n = []∧t=tag then segTexts t els el pt else [])++listTexts tag el pt l:=rfl
  rw [e,List.length_append,List.length_cons]
  constructor
  ·split
   ·omega
   ·simp;omega
  ·intro s hs
   rcases List.mem_append.1 hs with hs|hs
   ·split at hs
    ·exact g2 s hs
    ·cases hs
   ·exact h2 s hs
theorem flatTexts_ok {tag:Str} {el pt:Int}:∀ (ls:List (List Br)),(∀ x ∈ ls,∀ b ∈ x,b.Nar)→(ls.flatMap (listTexts tag el pt)).length≤20 * lszs ls∧∀ s ∈ ls.flatMap (listTexts tag el pt),s.length≤1000
 | [],_=>by simp [lszs]
 | l::ls,h=>by
  obtain ⟨h1,h2⟩:=flatTexts_ok (tag:=tag) (el:=el) (pt:=pt) ls fun x hx=>h x (by simp [hx])
  obtain ⟨g1,g2⟩:=listTexts_ok (tag:=tag) (el:=el) (pt:=pt) l (h l (by simp))
  have:=blen_sizes l
  rw [List.flatMap_cons,List.length_append,lszs]
  refine ⟨by omega,fun s hs => ?_⟩
  rcases List.mem_append.1 hs with hs|hs
  ·exact g2 s hs
  ·exact h2 s hs
theorem findTexts_ok {ns:List Str} {tag:Str} {el pt:Int} {l:List Br} (h:∀ b ∈ l,b.Nar) (hs:Br.sizes l≤100000):(findTexts ns tag el pt l).length≤10000000∧∀ s ∈ findTexts ns tag el pt l,s.length≤1000:=by
 obtain ⟨h1,h2⟩:=flatTexts_ok (tag:=tag) (el:=el) (pt:=pt) (inside1 ns l) (inside_nar ns l h)
 have h3:=inside_sz ns l
 exact ⟨by unfold findTexts;omega,h2⟩
end Go.Proofs.YtnlbekongmkmjaaGreatDoor
namespace Go.Proofs.YtnlbekongmkmjaaGreatDoor
set_option linter.unusedSimpArgs false
set_option linter.unusedVariables false
open Go.RowKit
set_option maxRecDepth 100000
set_option maxHeartbeats 4000000
theorem Kids_sem (tree:List Br) (p:Str) (hp:p.length≤1000) (hs:Br.sizes tree≤100000):Sem Tryz.prog 50 [.sl 0 4 (tree.map Br.row),.str p] (.sl 0 1 ((kidsP p tree).map klR)):=by
 unfold kidsP
 by_cases h:p = []
 ·subst h
  rw [if_pos rfl]
  refine sem_intro (M:=fun t=>mem t [1000044,1000045,1000084]) hT hM Tryz.func50 inferInstance rfl rfl rfl rfl rfl rfl ?_
  repeat' (
   (conv=>whnf)
   first
    | ((try ((with_reducible first|apply NumE.go|apply IdxE.go|apply TextE.go|apply LookE.go|apply CallE.go);(conv=>whnf)));(with_reducible apply SideD.mk);(focus (first|((try apply givesl);(focus (((first|apply gives_go (namesOf_sem _ _)|apply gives_go (kidsOf_sem _ _ _ _));(focus (exact DLes.au));(focus exact rfl);(all_goals (exact pre)))));(all_goals exact rfl))|exact side)))
    | ((with_reducible first|apply DrawR.go0|apply KerB.mk);(focus kernel_rfl))
    | (with_reducible first|apply ends_ret|apply ends_norm|apply Halt'.mk)
    | ((with_reducible apply CondD.mk)<;>intro hb<;>(try simp only [SPLT] at hb)<;>(try first|exact noB)))
  all_goals (try exact (false:Bool))
  repeat' ((conv=>whnf);first|exact endR|(with_reducible first|apply And.intro|apply endsO_ret|apply endsO_norm|apply DLes.cons))
  all_goals (conv=>whnf)
 ·rw [if_neg h]
  have h1:=namesOf_sem p hp
  have hl:=parts_len (c:=47) p
  have h2:=kidsOf_sem tree (partsAt 47 p) (by omega) hs
  generalize partsAt 47 p=ns at h1 h2
  refine sem_intro (M:=fun t=>mem t [1000044,1000045,1000084]) hT hM Tryz.func50 inferInstance rfl rfl rfl rfl rfl rfl ?_
  repeat' (
   (conv=>whnf)
   first
    | ((try ((with_reducible first|apply NumE.go|apply IdxE.go|apply TextE.go|apply LookE.go|apply CallE.go);(conv=>whnf)));(with_reducible apply SideD.mk);(focus (first|((try apply givesl);(focus (first|((apply gives_go (h1));(focus (exact DLes.au));(focus exact rfl);(all_goals (exact pre)))|((apply gives_go (h2));(focus (exact DLes.au));(focus exact rfl);(all_goals (exact pre)))|((first|apply gives_go (namesOf_sem _ _)|apply gives_go (kidsOf_sem _ _ _ _));(focus (exact DLes.au));(focus exact rfl);(all_goals (exact pre)))));(all_goals exact rfl))|exact side)))
    | ((with_reducible first|apply DrawR.go0|apply KerB.mk);(focus kernel_rfl))
    | (with_reducible first|apply ends_ret|apply ends_norm|apply Halt'.mk)
    | ((with_reducible apply CondD.mk)<;>intro hb<;>(try simp only [SPLT] at hb)<;>(try first|exact noB|(exact h hb;done))))
  all_goals (try exact (false:Bool))
  repeat' ((conv=>whnf);first|exact endR|(with_reducible first|apply And.intro|apply endsO_ret|apply endsO_norm|apply DLes.cons))
  all_goals (conv=>whnf)
theorem textAt_sem (t:Str) (els:List El) (e:Int) (k:Nat) (pt:Int) (el:El) (p:List Str) (he:els[(e - 1).toNat]?=some el) (hk:el[k]?=some p) (he1:1≤e) (he2:e≤1000) (hp1:1≤pt) (hp2:pt≤1000) (hlk:el.length≤1000):
  Sem Tryz.prog 92 [.agg [.str t,.sl 0 1 (els.map elR)],.agg [.int .i64 e,.int .i64 ((k:Int)+1),.int .i64 pt]] (.tup [.str (p[(pt - 1).toNat]?.getD []),.bool (p[(pt - 1).toNat]?).isSome]):=by
 have hll:(els.map elR).length=els.length:=List.length_map _
 have hkl:=(List.getElem?_eq_some_iff.1 hk).1
 have hel:=(List.getElem?_eq_some_iff.1 he).1
 have hlm:(el.map repR).length=el.length:=List.length_map _
 have hpm:(p.map partR).length=p.length:=List.length_map _
 by_cases hlen:(pt - 1).toNat < p.length
 ·obtain ⟨s,hs⟩:∃ s,p[(pt - 1).toNat]?=some s:=⟨_,List.getElem?_eq_getElem hlen⟩
  rw [hs]
  refine sem_intro (M:=fun t=>mem t [1000044,1000045,1000084]) hT hM Tryz.func92 inferInstance rfl rfl rfl rfl rfl rfl ?_
  repeat' (
   (conv=>whnf)
   first
    | ((try ((with_reducible first|apply NumE.go|apply IdxE.go|apply TextE.go|apply LookE.go|apply CallE.go);(conv=>whnf)));(with_reducible apply SideD.mk);(focus ((first|(intro hc;have hc0:=hc;(try simp only [SPLT] at hc);(try refine And.intro (by first|exact hc0|exact ⟨hc0,hc0⟩|exact ⟨hc0,hc0,hc0⟩) ?_))|skip);first|(exact idx_el he (by omega))|(exact idx_rep hk (by omega))|(exact idx_str hs (by omega))|exact sideG)))
    | ((with_reducible first|apply DrawR.go0|apply KerB.mk);(focus kernel_rfl))
    | (with_reducible first|apply ends_ret|apply ends_norm|apply Halt'.mk)
    | ((with_reducible apply CondD.mk)<;>intro hb<;>(try simp only [SPLT] at hb)<;>(try first|exact noB)))
  all_goals (try exact (false:Bool))
  repeat' ((conv=>whnf);first|exact endR|(with_reducible first|apply And.intro|apply endsO_ret|apply endsO_norm|apply DLes.cons))
  all_goals (conv=>whnf)
  exact rle_str rfl
 ·rw [List.getElem?_eq_none_iff.2 (by omega)]
  refine sem_intro (M:=fun t=>mem t [1000044,1000045,1000084]) hT hM Tryz.func92 inferInstance rfl rfl rfl rfl rfl rfl ?_
  repeat' (
   (conv=>whnf)
   first
    | ((try ((with_reducible first|apply NumE.go|apply IdxE.go|apply TextE.go|apply LookE.go|apply CallE.go);(conv=>whnf)));(with_reducible apply SideD.mk);(focus ((first|(intro hc;have hc0:=hc;(try simp only [SPLT] at hc);(try refine And.intro (by first|exact hc0|exact ⟨hc0,hc0⟩|exact ⟨hc0,hc0,hc0⟩) ?_))|skip);first|(exact idx_el he (by omega))|(exact idx_rep hk (by omega))|exact sideG)))
    | ((with_reducible first|apply DrawR.go0|apply KerB.mk);(focus kernel_rfl))
    | (with_reducible first|apply ends_ret|apply ends_norm|apply Halt'.mk)
    | ((with_reducible apply CondD.mk)<;>intro hb<;>(try simp only [SPLT] at hb)<;>(try first|exact noB)))
  all_goals (try exact (false:Bool))
  repeat' ((conv=>whnf);first|exact endR|(with_reducible first|apply And.intro|apply endsO_ret|apply endsO_norm|apply DLes.cons))
  all_goals (conv=>whnf)
  exact rle_str rfl
/-- The texts of one segment, from a repeat on. -/
def elTexts (pt:Int) (e:El):List Str:=(e.filterMap fun p=>p[(max pt 1 - 1).toNat]?).filter fun s=>s != []
theorem elTexts_at {pt:Int} {e:El} {k:Nat} {p:List Str} (h:e[k]?=some p):elTexts pt (e.drop k)=if p[(max pt 1 - 1).toNat]?.getD [] = [] then elTexts pt (e.drop (k+1)) else p[(max pt 1 - 1).toNat]?.getD []::elTexts pt (e.drop (k+1)):=by
 unfold elTexts
 rw [List.drop_eq_getElem_cons (List.getElem?_eq_some_iff.1 h).1,(List.getElem?_eq_some_iff.1 h).2]
 cases hp:p[(max pt 1 - 1).toNat]? with
 | none=>rw [List.filterMap_cons_none (f:=fun p:List Str=>p[(max pt 1 - 1).toNat]?) hp];rfl
 | some s=>
  rw [List.filterMap_cons_some (f:=fun p:List Str=>p[(max pt 1 - 1).toNat]?) hp,List.filter_cons]
  show _=if s = [] then _ else s::_
  cases s with
  | nil=>rfl
  | cons b s=>rfl
theorem flatF_at {tag:Str} {el pt:Int} {ls:List (List Br)} {k:Nat} {l:List Br} (h:ls[k]?=some l):(ls.drop k).flatMap (listTexts tag el pt)=listTexts tag el pt l++(ls.drop (k+1)).flatMap (listTexts tag el pt):=by
 rw [List.drop_eq_getElem_cons (List.getElem?_eq_some_iff.1 h).1,(List.getElem?_eq_some_iff.1 h).2,List.flatMap_cons]
theorem listT_yes {tag t n:Str} {els:List El} {ks:List Br} {el pt:Int} {l:List Br} {m:Nat} (h:l[m]?=some (.mk n t els ks)) (e:n = []) (e2:t=tag):listTexts tag el pt (l.drop m)=segTexts t els el pt++listTexts tag el pt (l.drop (m+1)):=by
 unfold listTexts
 rw [List.drop_eq_getElem_cons (List.getElem?_eq_some_iff.1 h).1,(List.getElem?_eq_some_iff.1 h).2,List.flatMap_cons]
 congr 1
 exact if_pos ⟨e,e2⟩
theorem listT_no {tag t n:Str} {els:List El} {ks:List Br} {el pt:Int} {l:List Br} {m:Nat} (h:l[m]?=some (.mk n t els ks)) (e:¬ (n = []∧t=tag)):listTexts tag el pt (l.drop m)=listTexts tag el pt (l.drop (m+1)):=by
 unfold listTexts
 rw [List.drop_eq_getElem_cons (List.getElem?_eq_some_iff.1 h).1,(List.getElem?_eq_some_iff.1 h).2,List.flatMap_cons]
 have:(if (Br.mk n t els ks).name = []∧(Br.mk n t els ks).tag=tag then segTexts (Br.mk n t els ks).tag (Br.mk n t els ks).els el pt else []) = []:=if_neg e
 rw [this,List.nil_append]
theorem texts_sem (tree:List Br) (ns:List Str) (tag:Str) (el pt:Int) (hl:ns.length≤2000) (hs:Br.sizes tree≤100000) (hn:∀ b ∈ tree,b.Nar) (he0:0≤el) (he1:el≤1000) (hp0:0≤pt) (hp1:pt≤1000):
  Sem Tryz.prog 54 [.sl 0 4 (tree.map Br.row),.agg [.sl 0 1 (ns.map fun s => [.str s]),.str tag,.int .i64 el,.int .i64 pt]] (.sl 0 1 ((findTexts ns tag el pt tree).map fun s => [.str s])):=by
 have h1:=kidsOf_sem tree ns hl hs
 have hok:=(findTexts_ok (ns:=ns) (tag:=tag) (el:=el) (pt:=pt) hn hs).1
 have hin:=inside_nar ns tree hn
 have hsz:=inside_sz ns tree
 unfold findTexts at hok ⊢
 generalize inside1 ns tree=ls at h1 hok hin hsz ⊢
 have hlsl:(ls.map klR).length=ls.length:=List.length_map _
 have hlsz:=lszs_len ls
 generalize hR:ls.flatMap (listTexts tag el pt)=R at hok ⊢
 refine sem_intro (M:=fun t=>mem t [1000044,1000045,1000084]) hT hM Tryz.func54 inferInstance rfl rfl rfl rfl rfl rfl ?_
 repeat' (
  (conv=>whnf)
  first
   | ((try ((with_reducible first|apply NumE.go|apply IdxE.go|apply TextE.go|apply LookE.go|apply CallE.go);(conv=>whnf)));(with_reducible apply SideD.mk);(focus ((first|(intro hc;have hc0:=hc;(try simp only [SPLT] at hc);(try refine And.intro (by first|exact hc0|exact ⟨hc0,hc0⟩|exact ⟨hc0,hc0,hc0⟩) ?_))|skip);first|((try apply givesl);(focus (first|((apply gives_go (h1));(focus (exact DLes.au));(focus exact rfl);(all_goals (exact pre)))|((first|apply gives_go (kidsOf_sem _ _ _ _)|apply gives_go (textAt_sem _ _ _ _ _ _ _ _ _ _ _ _ _ _));(focus (exact DLes.au));(focus exact rfl);(all_goals (exact pre)))));(all_goals exact rfl))|exact sideG)))
   | ((with_reducible first|apply DrawR.go0|apply KerB.mk);(focus kernel_rfl))
   | (with_reducible first|apply ends_ret|apply ends_norm|apply Halt'.mk)
   | ((with_reducible apply CondD.mk)<;>intro hb<;>(try simp only [SPLT] at hb)<;>(try first|exact noB)))
 all_goals (try exact (false:Bool))
 refine loop_go (M:=fun t=>mem t [1000044,1000045,1000084]) hT hM (fun x:Nat × List Str => [(19,.int .i64 x.1),(5,.sl 1 1 (x.2.map fun s => [.str s]))]) (fun x=>x.1≤ls.length∧x.2++(ls.drop x.1).flatMap (listTexts tag el pt)=R) (fun x=>ls.length - x.1) ((0,[])) ?_ ?_ ?_
 ·(conv=>whnf)
  refine ⟨?_,by rfl⟩
  repeat' ((conv=>whnf);first|exact endF|(exact dle_nil rfl)|exact endF2|with_reducible apply DLes.cons)
 ·exact ⟨Nat.zero_le _,by simpa using hR⟩
 ·rintro ⟨k,acc⟩ ⟨hk,hacc⟩
  dsimp only at hk hacc ⊢
  cases hy:ls[k]? with
  | none=>
   have hm:=List.getElem?_eq_none_iff.1 hy
   rw [List.drop_of_length_le hm] at hacc
   have hacc:acc=R:=by simpa using hacc
   subst hacc
   repeat' (
    (conv=>whnf)
    first
     | ((try ((with_reducible first|apply NumE.go|apply IdxE.go|apply TextE.go|apply LookE.go|apply CallE.go);(conv=>whnf)));(with_reducible apply SideD.mk);(focus ((first|(intro hc;have hc0:=hc;(try simp only [SPLT] at hc);(try refine And.intro (by first|exact hc0|exact ⟨hc0,hc0⟩|exact ⟨hc0,hc0,hc0⟩) ?_))|skip);first|((try apply givesl);(focus (((first|apply gives_go (kidsOf_sem _ _ _ _)|apply gives_go (textAt_sem _ _ _ _ _ _ _ _ _ _ _ _ _ _));(focus (exact DLes.au));(focus exact rfl);(all_goals (exact pre)))));(all_goals exact rfl))|exact sideG)))
     | ((with_reducible first|apply DrawR.go0|apply KerB.mk);(focus kernel_rfl))
     | (with_reducible first|apply ends_ret|apply ends_norm|apply Halt'.mk)
     | ((with_reducible apply CondD.mk)<;>intro hb<;>(try simp only [SPLT] at hb)<;>(try first|exact noB)))
   all_goals (try exact (false:Bool))
   repeat' ((conv=>whnf);first|exact endR|(with_reducible first|apply And.intro|apply endsO_ret|apply endsO_norm|apply DLes.cons))
   all_goals (conv=>whnf)
  | some l=>
   have hlk:=(List.getElem?_eq_some_iff.1 hy).1
   rw [flatF_at hy] at hacc
   have hll:(l.map Br.row).length=l.length:=List.length_map _
   have hlsz2:=blen_sizes l
   have hlm:=lszs_mem (List.mem_of_getElem? hy)
   have hnl:=hin l (List.mem_of_getElem? hy)
   generalize hrest:(ls.drop (k+1)).flatMap (listTexts tag el pt)=rest at hacc
   repeat' (
    (conv=>whnf)
    first
     | ((try ((with_reducible first|apply NumE.go|apply IdxE.go|apply TextE.go|apply LookE.go|apply CallE.go);(conv=>whnf)));(with_reducible apply SideD.mk);(focus ((first|(intro hc;have hc0:=hc;(try simp only [SPLT] at hc);(try refine And.intro (by first|exact hc0|exact ⟨hc0,hc0⟩|exact ⟨hc0,hc0,hc0⟩) ?_))|skip);first|(exact idx_kl hy rfl)|((try apply givesl);(focus (((first|apply gives_go (kidsOf_sem _ _ _ _)|apply gives_go (textAt_sem _ _ _ _ _ _ _ _ _ _ _ _ _ _));(focus (exact DLes.au));(focus exact rfl);(all_goals (exact pre)))));(all_goals exact rfl))|exact sideG)))
     | ((with_reducible first|apply DrawR.go0|apply KerB.mk);(focus kernel_rfl))
     | (with_reducible first|apply ends_ret|apply ends_norm|apply Halt'.mk)
     | ((with_reducible apply CondD.mk)<;>intro hb<;>(try simp only [SPLT] at hb)<;>(try first|exact noB)))
   all_goals (try exact (false:Bool))
   refine loop_go (M:=fun t=>mem t [1000044,1000045,1000084]) hT hM (fun x:Nat × List Str => [(25,.int .i64 x.1),(5,.sl 1 1 (x.2.map fun s => [.str s]))]) (fun x=>x.1≤l.length∧x.2++(listTexts tag el pt (l.drop x.1)++rest)=R) (fun x=>l.length - x.1) ((0,acc)) ?_ ?_ ?_
   ·(conv=>whnf)
    refine ⟨?_,by rfl⟩
    repeat' ((conv=>whnf);first|exact endF|exact endF2|with_reducible apply DLes.cons)
   ·exact ⟨Nat.zero_le _,by simpa using hacc⟩
   ·rintro ⟨m,ac⟩ ⟨hmm,hac⟩
    dsimp only at hmm hac ⊢
    have hacl:ac.length≤10000000:=by
     have:=congrArg List.length hac
     rw [List.length_append] at this
     omega
    cases hz:l[m]? with
    | none=>
     have hm2:=List.getElem?_eq_none_iff.1 hz
     rw [List.drop_of_length_le hm2] at hac
     repeat' (
      (conv=>whnf)
      first
       | ((try ((with_reducible first|apply NumE.go|apply IdxE.go|apply TextE.go|apply LookE.go|apply CallE.go);(conv=>whnf)));(with_reducible apply SideD.mk);(focus ((first|(intro hc;have hc0:=hc;(try simp only [SPLT] at hc);(try refine And.intro (by first|exact hc0|exact ⟨hc0,hc0⟩|exact ⟨hc0,hc0,hc0⟩) ?_))|skip);first|((try apply givesl);(focus (((first|apply gives_go (kidsOf_sem _ _ _ _)|apply gives_go (textAt_sem _ _ _ _ _ _ _ _ _ _ _ _ _ _));(focus (exact DLes.au));(focus exact rfl);(all_goals (exact pre)))));(all_goals exact rfl))|exact sideG)))
       | ((with_reducible first|apply DrawR.go0|apply KerB.mk);(focus kernel_rfl))
       | (with_reducible first|apply ends_ret|apply ends_norm|apply Halt'.mk)
       | ((with_reducible apply CondD.mk)<;>intro hb<;>(try simp only [SPLT] at hb)<;>(try first|exact noB)))
     all_goals (try exact (false:Bool))
     refine ⟨(k+1,ac),⟨by dsimp only;omega,?_⟩,by dsimp only;omega,?_⟩
     ·dsimp only
      rw [hrest]
      rw [show listTexts tag el pt [] = [] from rfl,List.nil_append] at hac
      exact hac
     ·(conv=>whnf)
      refine ⟨?_,by rfl⟩
      repeat' ((conv=>whnf);first|exact endF|exact endF2|with_reducible apply DLes.cons)
    | some b=>
     have hlm2:=(List.getElem?_eq_some_iff.1 hz).1
     have hnb:=hnl b (List.mem_of_getElem? hz)
     obtain ⟨n1,t1,els1,ks1⟩:=b
     obtain ⟨htl,hel,hne,_⟩:=hnb
     have helm:(els1.map elR).length=els1.length:=List.length_map _
     obtain ⟨e,hx⟩:∃ e:El,el - 1 < els1.length→1≤el→els1[(el - 1).toNat]?=some e:=⟨els1[(el - 1).toNat]?.getD [],fun h h'=>by rw [List.getElem?_eq_getElem (by omega)];rfl⟩
     repeat' (
      (conv=>whnf)
      first
       | ((try ((with_reducible first|apply NumE.go|apply IdxE.go|apply TextE.go|apply LookE.go|apply CallE.go);(conv=>whnf)));(with_reducible apply SideD.mk);(focus ((first|(intro hc;have hc0:=hc;(try simp only [SPLT] at hc);(try refine And.intro (by first|exact hc0|exact ⟨hc0,hc0⟩|exact ⟨hc0,hc0,hc0⟩) ?_))|skip);first|(exact idx_br hz rfl)|(exact idx_el (hx (by omega) (by omega)) (by omega))|((try apply givesl);(focus (((first|apply gives_go (kidsOf_sem _ _ _ _)|apply gives_go (textAt_sem _ _ _ _ _ _ _ _ _ _ _ _ _ _));(focus (exact DLes.au));(focus exact rfl);(all_goals (exact pre)))));(all_goals exact rfl))|exact sideG)))
       | ((with_reducible first|apply DrawR.go0|apply KerB.mk);(focus kernel_rfl))
       | (with_reducible first|apply ends_ret|apply ends_norm|apply Halt'.mk)
       | ((with_reducible apply CondD.mk)<;>intro hb<;>(try simp only [SPLT] at hb)<;>(try first|exact noB)))
     all_goals (try exact (false:Bool))
     ·rw [listT_no hz (fun h=>by rcases hb with g|g;exact g h.1;exact g h.2)] at hac
      refine ⟨(m+1,ac),⟨by dsimp only;omega,hac⟩,by dsimp only;omega,?_⟩
      (conv=>whnf)
      refine ⟨?_,by rfl⟩
      repeat' ((conv=>whnf);first|exact endF|exact endF2|with_reducible apply DLes.cons)
     ·rename_i g1 g2
      rw [listT_yes hz g2.1 g2.2] at hac
      have hsg:segTexts t1 els1 el pt = [tag]:=by unfold segTexts;rw [if_pos hb,g2.2]
      rw [hsg,List.append_assoc,← List.append_assoc] at hac
      refine ⟨(m+1,ac ++ [tag]),⟨by dsimp only;omega,hac⟩,by dsimp only;omega,?_⟩
      (conv=>whnf)
      refine ⟨?_,by rfl⟩
      repeat' ((conv=>whnf);first|exact endF|(exact DLe.of_eq (congrArg (D.sl 1 1) (by rw [List.map_append];rfl)))|exact endF2|with_reducible apply DLes.cons)
     ·rename_i g1 g2 g3
      rw [listT_yes hz g2.1 g2.2] at hac
      have hsg:segTexts t1 els1 el pt = []:=by
       unfold segTexts
       rw [if_neg g3,List.getElem?_eq_none_iff.2 (by omega)]
      rw [hsg,List.nil_append] at hac
      refine ⟨(m+1,ac),⟨by dsimp only;omega,hac⟩,by dsimp only;omega,?_⟩
      (conv=>whnf)
      refine ⟨?_,by rfl⟩
      repeat' ((conv=>whnf);first|exact endF|exact endF2|with_reducible apply DLes.cons)
     ·rename_i g1 g2 g3
      have hx:=hx (by omega) (by omega)
      rw [listT_yes hz g2.1 g2.2] at hac
      have hsg:segTexts t1 els1 el pt=elTexts pt e:=by
       unfold segTexts
       rw [if_neg g3,hx]
       rfl
      rw [hsg,List.append_assoc] at hac
      have hnE:=hne e (List.mem_of_getElem? hx)
      have hef:=hnE.few
      have hem:(e.map repR).length=e.length:=List.length_map _
      generalize hrest2:listTexts tag el pt (l.drop (m+1))++rest=rest2 at hac
      refine loop_go (M:=fun t=>mem t [1000044,1000045,1000084]) hT hM (fun x:Nat × List Str => [(65,.int .i64 x.1),(5,.sl 1 1 (x.2.map fun s => [.str s]))]) (fun x=>x.1≤e.length∧x.2++(elTexts pt (e.drop x.1)++rest2)=R) (fun x=>e.length - x.1) ((0,ac)) ?_ ?_ ?_
      ·(conv=>whnf)
       refine ⟨?_,by rfl⟩
       repeat' ((conv=>whnf);first|exact endF|exact endF2|with_reducible apply DLes.cons)
      ·exact ⟨Nat.zero_le _,by simpa using hac⟩
      ·rintro ⟨j,a⟩ ⟨hj,ha⟩
       dsimp only at hj ha ⊢
       have hal:a.length≤10000000:=by
        have:=congrArg List.length ha
        rw [List.length_append] at this
        omega
       cases hw:e[j]? with
       | none=>
        have hm3:=List.getElem?_eq_none_iff.1 hw
        rw [List.drop_of_length_le hm3,show elTexts pt [] = [] from rfl,List.nil_append] at ha
        repeat' (
         (conv=>whnf)
         first
          | ((try ((with_reducible first|apply NumE.go|apply IdxE.go|apply TextE.go|apply LookE.go|apply CallE.go);(conv=>whnf)));(with_reducible apply SideD.mk);(focus ((first|(intro hc;have hc0:=hc;(try simp only [SPLT] at hc);(try refine And.intro (by first|exact hc0|exact ⟨hc0,hc0⟩|exact ⟨hc0,hc0,hc0⟩) ?_))|skip);first|((try apply givesl);(focus (((first|apply gives_go (kidsOf_sem _ _ _ _)|apply gives_go (textAt_sem _ _ _ _ _ _ _ _ _ _ _ _ _ _));(focus (exact DLes.au));(focus exact rfl);(all_goals (exact pre)))));(all_goals exact rfl))|exact sideG)))
          | ((with_reducible first|apply DrawR.go0|apply KerB.mk);(focus kernel_rfl))
          | (with_reducible first|apply ends_ret|apply ends_norm|apply Halt'.mk)
          | ((with_reducible apply CondD.mk)<;>intro hb<;>(try simp only [SPLT] at hb)<;>(try first|exact noB)))
        all_goals (try exact (false:Bool))
        refine ⟨(m+1,a),⟨by dsimp only;omega,?_⟩,by dsimp only;omega,?_⟩
        ·dsimp only
         rw [hrest2]
         exact ha
        ·(conv=>whnf)
         refine ⟨?_,by rfl⟩
         repeat' ((conv=>whnf);first|exact endF|exact endF2|with_reducible apply DLes.cons)
       | some p=>
        have hlj:=(List.getElem?_eq_some_iff.1 hw).1
        have ht:=textAt_sem t1 els1 el j (max pt 1) e p hx hw (by omega) (by omega) (by omega) (by omega) (by omega)
        rw [elTexts_at hw] at ha
        generalize p[(max pt 1 - 1).toNat]?.getD []=s at ht ha
        generalize (p[(max pt 1 - 1).toNat]?).isSome=sb at ht
        repeat' (
         (conv=>whnf)
         first
          | ((try ((with_reducible first|apply NumE.go|apply IdxE.go|apply TextE.go|apply LookE.go|apply CallE.go);(conv=>whnf)));(with_reducible apply SideD.mk);(focus ((first|(intro hc;have hc0:=hc;(try simp only [SPLT] at hc);(try refine And.intro (by first|exact hc0|exact ⟨hc0,hc0⟩|exact ⟨hc0,hc0,hc0⟩) ?_))|skip);first|((try apply givesl);(focus (first|((apply gives_go (ht));(focus (exact DLes.au));(focus exact rfl);(all_goals (exact pre)))|((first|apply gives_go (kidsOf_sem _ _ _ _)|apply gives_go (textAt_sem _ _ _ _ _ _ _ _ _ _ _ _ _ _));(focus (exact DLes.au));(focus exact rfl);(all_goals (exact pre)))));(all_goals exact rfl))|exact sideG)))
          | ((with_reducible first|apply DrawR.go0|apply KerB.mk);(focus kernel_rfl))
          | (with_reducible first|apply ends_ret|apply ends_norm|apply Halt'.mk)
          | ((with_reducible apply CondD.mk)<;>intro hb<;>(try simp only [SPLT] at hb)<;>(try first|exact noB)))
        all_goals (try exact (false:Bool))
        ·rw [if_neg hb,List.cons_append,List.append_cons] at ha
         refine ⟨(j+1,a ++ [s]),⟨by dsimp only;omega,ha⟩,by dsimp only;omega,?_⟩
         (conv=>whnf)
         refine ⟨?_,by rfl⟩
         repeat' ((conv=>whnf);first|exact endF|(exact DLe.of_eq (congrArg (D.sl 1 1) (by rw [List.map_append];rfl)))|exact endF2|with_reducible apply DLes.cons)
        ·rw [if_pos hb] at ha
         refine ⟨(j+1,a),⟨by dsimp only;omega,ha⟩,by dsimp only;omega,?_⟩
         (conv=>whnf)
         refine ⟨?_,by rfl⟩
         repeat' ((conv=>whnf);first|exact endF|exact endF2|with_reducible apply DLes.cons)
end Go.Proofs.YtnlbekongmkmjaaGreatDoor
namespace Go.Proofs.YtnlbekongmkmjaaGreatDoor
set_option linter.unusedSimpArgs false
set_option linter.unusedVariables false
open Go.RowKit
set_option maxRecDepth 100000
set_option maxHeartbeats 1000000
theorem indexFuncT_sem (l:List Str) (f:Nat) (cp:List D) (q:Str→Bool) (hq:∀ a ∈ l,Sem Tryz.prog f [.str a,.ptr cp] (.bool (q a))):Sem Tryz.prog 93 [.sl 0 1 (l.map fun s => [.str s]),.fn f [.ptr cp]] (.int .i64 (idxG q l 0)):=by
 refine sem_len 0 rfl rfl fun hl => ?_
 rw [List.length_map] at hl
 have hll:(l.map fun s => [D.str s]).length=l.length:=List.length_map _
 refine sem_intro (M:=fun t=>mem t [1000044,1000045,1000084]) hT hM Tryz.func93 inferInstance rfl rfl rfl rfl rfl rfl ?_
 repeat' (
  (conv=>whnf)
  first
   | ((try ((with_reducible first|apply NumE.go|apply IdxE.go|apply TextE.go|apply LookE.go|apply CallE.go);(conv=>whnf)));(with_reducible apply SideD.mk);(focus (first|exact side)))
   | ((with_reducible first|apply DrawR.go0|apply KerB.mk);(focus kernel_rfl))
   | (with_reducible first|apply ends_ret|apply ends_norm|apply Halt'.mk)
   | ((with_reducible apply CondD.mk)<;>intro hb<;>(try simp only [SPLT] at hb)<;>(try first|exact noB)))
 all_goals (try exact (false:Bool))
 refine loop_go (M:=fun t=>mem t [1000044,1000045,1000084]) hT hM (fun k:Nat => [(8,.int .i64 k)]) (fun k=>k≤l.length∧idxG q (l.drop k) k=idxG q l 0) (fun k=>l.length - k) (0) ?_ ?_ ?_
 ·(conv=>whnf)
  refine ⟨?_,by rfl⟩
  repeat' ((conv=>whnf);first|exact endF|exact endF2|with_reducible apply DLes.cons)
 ·exact ⟨Nat.zero_le _,rfl⟩
 ·rintro k ⟨hk,hi⟩
  rcases hx:l[k]? with _|a
  ·have hk':k=l.length:=by have:=List.getElem?_eq_none_iff.1 hx;omega
   subst hk'
   rw [List.drop_length] at hi
   repeat' (
    (conv=>whnf)
    first
     | ((try ((with_reducible first|apply NumE.go|apply IdxE.go|apply TextE.go|apply LookE.go|apply CallE.go);(conv=>whnf)));(with_reducible apply SideD.mk);(focus (first|exact side)))
     | ((with_reducible first|apply DrawR.go0|apply KerB.mk);(focus kernel_rfl))
     | (with_reducible first|apply ends_ret|apply ends_norm|apply Halt'.mk)
     | ((with_reducible apply CondD.mk)<;>intro hb<;>(try simp only [SPLT] at hb)<;>(try first|exact noB)))
   all_goals (try exact (false:Bool))
   repeat' ((conv=>whnf);first|exact endR|(with_reducible first|apply And.intro|apply endsO_ret|apply endsO_norm|apply DLes.cons))
   all_goals (conv=>whnf)
   exact rle_int hi
  ·have hlt:=(List.getElem?_eq_some_iff.1 hx).1
   have hc:=hq a (List.mem_of_getElem? hx)
   rw [idxG_at hx] at hi
   generalize q a=b at hc hi
   repeat' (
    (conv=>whnf)
    first
     | ((try ((with_reducible first|apply NumE.go|apply IdxE.go|apply TextE.go|apply LookE.go|apply CallE.go);(conv=>whnf)));(with_reducible apply SideD.mk);(focus (first|((try apply givesl);(focus (((apply gives_go (hc));(focus (exact DLes.au));(focus exact rfl);(all_goals (exact pre)))));(all_goals exact rfl))|exact side)))
     | ((with_reducible first|apply DrawR.go0|apply KerB.mk);(focus kernel_rfl))
     | (with_reducible first|apply ends_ret|apply ends_norm|apply Halt'.mk)
     | ((with_reducible apply CondD.mk)<;>intro hb<;>(try simp only [SPLT] at hb)<;>(try first|exact noB)))
   all_goals (try exact (false:Bool))
   ·repeat' ((conv=>whnf);first|exact endR|(with_reducible first|apply And.intro|apply endsO_ret|apply endsO_norm|apply DLes.cons))
    all_goals (conv=>whnf)
    exact rle_int (by rw [← hi,if_pos hb])
   ·refine ⟨k+1,⟨by omega,by rw [← hi,if_neg (by simp [hb])]⟩,by omega,?_⟩
    (conv=>whnf)
    refine ⟨?_,by rfl⟩
    repeat' ((conv=>whnf);first|exact endF|exact endF2|with_reducible apply DLes.cons)
theorem containsFuncT_sem (l:List Str) (f:Nat) (cp:List D) (q:Str→Bool) (hq:∀ a ∈ l,Sem Tryz.prog f [.str a,.ptr cp] (.bool (q a))):Sem Tryz.prog 55 [.sl 0 1 (l.map fun s => [.str s]),.fn f [.ptr cp]] (.bool (l.any q)):=by
 have hI:=indexFuncT_sem l f cp q hq
 refine sem_intro (M:=fun t=>mem t [1000044,1000045,1000084]) hT hM Tryz.func55 inferInstance rfl rfl rfl rfl rfl rfl ?_
 repeat' (
  (conv=>whnf)
  first
   | ((try ((with_reducible first|apply NumE.go|apply IdxE.go|apply TextE.go|apply LookE.go|apply CallE.go);(conv=>whnf)));(with_reducible apply SideD.mk);(focus (first|((try apply givesl);(focus (first|((apply gives_go (hI));(focus (exact DLes.au));(focus exact rfl);(all_goals (exact pre)))|((apply gives_go (indexFuncT_sem _ _ _ _ _));(focus (exact DLes.au));(focus exact rfl);(all_goals (exact pre)))|((apply gives_go (indexFuncS_sem _ _ _ _ _));(focus (exact DLes.au));(focus exact rfl);(all_goals (exact pre)))));(all_goals exact rfl))|exact side)))
   | ((with_reducible first|apply DrawR.go0|apply KerB.mk);(focus kernel_rfl))
   | (with_reducible first|apply ends_ret|apply ends_norm|apply Halt'.mk)
   | ((with_reducible apply CondD.mk)<;>intro hb<;>(try simp only [SPLT] at hb)<;>(try first|exact noB)))
 all_goals (try exact (false:Bool))
 repeat' ((conv=>whnf);first|exact endR|(with_reducible first|apply And.intro|apply endsO_ret|apply endsO_norm|apply DLes.cons))
 all_goals (conv=>whnf)
 exact rle_bool (idxG_any q l 0 (by omega))
theorem indexFuncL_sem (l:List (List Br)) (f:Nat) (cp:List D) (q:List Br→Bool) (hq:∀ a ∈ l,Sem Tryz.prog f [.sl 0 4 (a.map Br.row),.ptr cp] (.bool (q a))):Sem Tryz.prog 85 [.sl 0 1 (l.map klR),.fn f [.ptr cp]] (.int .i64 (idxG q l 0)):=by
 refine sem_len 0 rfl rfl fun hl => ?_
 rw [List.length_map] at hl
 have hll:(l.map klR).length=l.length:=List.length_map _
 refine sem_intro (M:=fun t=>mem t [1000044,1000045,1000084]) hT hM Tryz.func85 inferInstance rfl rfl rfl rfl rfl rfl ?_
 repeat' (
  (conv=>whnf)
  first
   | ((try ((with_reducible first|apply NumE.go|apply IdxE.go|apply TextE.go|apply LookE.go|apply CallE.go);(conv=>whnf)));(with_reducible apply SideD.mk);(focus (first|exact side)))
   | ((with_reducible first|apply DrawR.go0|apply KerB.mk);(focus kernel_rfl))
   | (with_reducible first|apply ends_ret|apply ends_norm|apply Halt'.mk)
   | ((with_reducible apply CondD.mk)<;>intro hb<;>(try simp only [SPLT] at hb)<;>(try first|exact noB)))
 all_goals (try exact (false:Bool))
 refine loop_go (M:=fun t=>mem t [1000044,1000045,1000084]) hT hM (fun k:Nat => [(8,.int .i64 k)]) (fun k=>k≤l.length∧idxG q (l.drop k) k=idxG q l 0) (fun k=>l.length - k) (0) ?_ ?_ ?_
 ·(conv=>whnf)
  refine ⟨?_,by rfl⟩
  repeat' ((conv=>whnf);first|exact endF|exact endF2|with_reducible apply DLes.cons)
 ·exact ⟨Nat.zero_le _,rfl⟩
 ·rintro k ⟨hk,hi⟩
  rcases hx:l[k]? with _|a
  ·have hk':k=l.length:=by have:=List.getElem?_eq_none_iff.1 hx;omega
   subst hk'
   rw [List.drop_length] at hi
   repeat' (
    (conv=>whnf)
    first
     | ((try ((with_reducible first|apply NumE.go|apply IdxE.go|apply TextE.go|apply LookE.go|apply CallE.go);(conv=>whnf)));(with_reducible apply SideD.mk);(focus (first|exact side)))
     | ((with_reducible first|apply DrawR.go0|apply KerB.mk);(focus kernel_rfl))
     | (with_reducible first|apply ends_ret|apply ends_norm|apply Halt'.mk)
     | ((with_reducible apply CondD.mk)<;>intro hb<;>(try simp only [SPLT] at hb)<;>(try first|exact noB)))
   all_goals (try exact (false:Bool))
   repeat' ((conv=>whnf);first|exact endR|(with_reducible first|apply And.intro|apply endsO_ret|apply endsO_norm|apply DLes.cons))
   all_goals (conv=>whnf)
   exact rle_int hi
  ·have hlt:=(List.getElem?_eq_some_iff.1 hx).1
   have hc:=hq a (List.mem_of_getElem? hx)
   rw [idxG_at hx] at hi
   generalize q a=b at hc hi
   repeat' (
    (conv=>whnf)
    first
     | ((try ((with_reducible first|apply NumE.go|apply IdxE.go|apply TextE.go|apply LookE.go|apply CallE.go);(conv=>whnf)));(with_reducible apply SideD.mk);(focus (first|(exact idx_kl hx rfl)|((try apply givesl);(focus (((apply gives_go (hc));(focus (exact DLes.au));(focus exact rfl);(all_goals (exact pre)))));(all_goals exact rfl))|exact side)))
     | ((with_reducible first|apply DrawR.go0|apply KerB.mk);(focus kernel_rfl))
     | (with_reducible first|apply ends_ret|apply ends_norm|apply Halt'.mk)
     | ((with_reducible apply CondD.mk)<;>intro hb<;>(try simp only [SPLT] at hb)<;>(try first|exact noB)))
   all_goals (try exact (false:Bool))
   ·repeat' ((conv=>whnf);first|exact endR|(with_reducible first|apply And.intro|apply endsO_ret|apply endsO_norm|apply DLes.cons))
    all_goals (conv=>whnf)
    exact rle_int (by rw [← hi,if_pos hb])
   ·refine ⟨k+1,⟨by omega,by rw [← hi,if_neg (by simp [hb])]⟩,by omega,?_⟩
    (conv=>whnf)
    refine ⟨?_,by rfl⟩
    repeat' ((conv=>whnf);first|exact endF|exact endF2|with_reducible apply DLes.cons)
theorem containsFuncL_sem (l:List (List Br)) (f:Nat) (cp:List D) (q:List Br→Bool) (hq:∀ a ∈ l,Sem Tryz.prog f [.sl 0 4 (a.map Br.row),.ptr cp] (.bool (q a))):Sem Tryz.prog 49 [.sl 0 1 (l.map klR),.fn f [.ptr cp]] (.bool (l.any q)):=by
 have hI:=indexFuncL_sem l f cp q hq
 refine sem_intro (M:=fun t=>mem t [1000044,1000045,1000084]) hT hM Tryz.func49 inferInstance rfl rfl rfl rfl rfl rfl ?_
 repeat' (
  (conv=>whnf)
  first
   | ((try ((with_reducible first|apply NumE.go|apply IdxE.go|apply TextE.go|apply LookE.go|apply CallE.go);(conv=>whnf)));(with_reducible apply SideD.mk);(focus (first|((try apply givesl);(focus (first|((apply gives_go (hI));(focus (exact DLes.au));(focus exact rfl);(all_goals (exact pre)))|((apply gives_go (indexFuncL_sem _ _ _ _ _));(focus (exact DLes.au));(focus exact rfl);(all_goals (exact pre)))));(all_goals exact rfl))|exact side)))
   | ((with_reducible first|apply DrawR.go0|apply KerB.mk);(focus kernel_rfl))
   | (with_reducible first|apply ends_ret|apply ends_norm|apply Halt'.mk)
   | ((with_reducible apply CondD.mk)<;>intro hb<;>(try simp only [SPLT] at hb)<;>(try first|exact noB)))
 all_goals (try exact (false:Bool))
 repeat' ((conv=>whnf);first|exact endR|(with_reducible first|apply And.intro|apply endsO_ret|apply endsO_norm|apply DLes.cons))
 all_goals (conv=>whnf)
 exact rle_bool (idxG_any q l 0 (by omega))
end Go.Proofs.YtnlbekongmkmjaaGreatDoor
