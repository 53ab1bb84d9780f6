/- Lists within right trees are right (plain). Right trees are narrow: few repeats, short texts (plain). -/
import Derived.Test.YtdhlopciapncfaaGreatDoorZ24
import Derived.Test.YtdhlopciapncfaaGreatDoorZ28
namespace Go.Proofs.YtdhlopciapncfaaGreatDoor
set_option linter.unusedSimpArgs false
set_option linter.unusedVariables false
open Go.RowKit
set_option maxRecDepth 100000
inductive Br.Nar:Br→Prop where
 |mk {n t:Str} {els:List El} {ks:List Br} (ht:t.length≤1000) (hl:els.length≤50) (h:∀ e ∈ els,NarE e) (hk:∀ x ∈ ks,x.Nar):(Br.mk n t els ks).Nar
theorem partsErr_ok:∀ l:List Str,partsErr l=0→∀ s ∈ l,s.length≤1000
 |[],_=>by simp
 |s::l,h=>by
  rw [partsErr] at h
  by_cases he:textErr s=0
  ·rw [if_neg (by simp [he])] at h
   intro x hx
   rcases List.mem_cons.1 hx with rfl|hx
   ·unfold textErr at he
    split at he
    ·cases he
    ·omega
   ·exact partsErr_ok l h x hx
  ·rw [if_pos he] at h
   exact absurd h he
theorem repsErr_ok:∀ l:List (List Str),repsErr l=0→∀ p ∈ l,(1≤p.length∧p.length≤20)∧∀ s ∈ p,s.length≤1000
 |[],_=>by simp
 |q::l,h=>by
  rw [repsErr] at h
  split at h
  ·cases h
  ·rename_i h1
   split at h
   ·cases h
   ·rename_i h2
    by_cases he:partsErr q=0
    ·rw [if_neg (by simp [he])] at h
     intro x hx
     rcases List.mem_cons.1 hx with rfl|hx
     ·exact ⟨⟨by omega,by omega⟩,partsErr_ok _ he⟩
     ·exact repsErr_ok l h x hx
    ·rw [if_pos he] at h
     exact absurd h he
theorem elErr_ok {e:El} (h:elErr e=0):NarE e:=by
 unfold elErr at h
 split at h
 ·cases h
 ·split at h
  ·cases h
  ·have h2:=repsErr_ok e h
   exact ⟨by omega,fun p hp=>(h2 p hp).1,fun p hp=>(h2 p hp).2⟩
theorem segElErr_ok:∀ l:List El,segElErr l=0→∀ e ∈ l,NarE e
 |[],_=>by simp
 |q::l,h=>by
  rw [segElErr] at h
  by_cases he:elErr q=0
  ·rw [if_neg (by simp [he])] at h
   intro x hx
   rcases List.mem_cons.1 hx with rfl|hx
   ·exact elErr_ok he
   ·exact segElErr_ok l h x hx
  ·rw [if_pos he] at h
   exact absurd h he
theorem segErr_ok {t:Str} {els:List El} (h:segErr t els=0):isTagB t=true∧els.length≤50∧∀ e ∈ els,NarE e:=by
 unfold segErr at h
 split at h
 ·cases h
 ·rename_i h1
  split at h
  ·cases h
  ·exact ⟨by simpa using h1,by omega,segElErr_ok els h⟩
theorem chks_nar {d:Int}:∀ (l:List Br),(∀ b ∈ l,∀ m,(b.chk d m).2=0→b.Nar)→∀ m,(Br.chks d m l).2=0→∀ b ∈ l,b.Nar
 |[],_,_,_=>by simp
 |b::l,hb,m,h=>by
  rw [bchks_cons] at h
  by_cases he:(b.chk d m).2=0
  ·rw [if_neg (by simp [he])] at h
   intro x hx
   rcases List.mem_cons.1 hx with rfl|hx
   ·exact hb _ (by simp) m he
   ·exact chks_nar l (fun y hy=>hb y (by simp [hy])) _ h x hx
  ·rw [if_pos he] at h
   exact absurd h he
theorem tag_short {t:Str} (h:isTagB t=true):t.length≤1000:=by
 unfold isTagB at h
 simp only [Bool.and_eq_true,decide_eq_true_eq] at h
 have:=h.1.1.2
 omega
theorem chk_nar (b:Br):∀ d m:Int,(b.chk d m).2=0→b.Nar:=by
 induction b using Br.ind with
 |h n t els ks ih=>
  intro d m h
  rw [bchk_mk] at h
  split at h
  ·cases h
  ·split at h
   ·cases h
   ·split at h
    ·cases h
    ·rename_i h3
     split at h
     ·cases h
     ·rename_i h4
      split at h
      ·rename_i h5
       obtain ⟨g1,g2,g3⟩:=segErr_ok h
       have hk:ks = []:=List.length_eq_zero_iff.1 (by simp only [h5,true_and] at h3;omega)
       exact .mk (tag_short g1) g2 g3 (by rw [hk];simp)
      ·rename_i h5
       have hb:t = []∧els.length=0:=Classical.byContradiction fun e=>h4 ⟨h5,.inl e⟩
       have he:els = []:=List.length_eq_zero_iff.1 hb.2
       exact .mk (by rw [hb.1];simp) (by omega) (by rw [he];simp) (chks_nar ks (fun c hc m hm=>ih c hc (d+1) m hm) _ h)
theorem tree_nar {l:List Br} (h:treeErr l=0):∀ b ∈ l,b.Nar:=chks_nar l (fun b _ m hm=>chk_nar b 0 m hm) 0 h
theorem inside_nar:∀ (ns:List Str) (l:List Br),(∀ b ∈ l,b.Nar)→∀ x ∈ inside1 ns l,∀ b ∈ x,b.Nar
 |[],l,h,x,hx=>by
  rw [inside1] at hx
  obtain rfl:=List.mem_singleton.1 hx
  exact h
 |n::ns,l,h,x,hx=>by
  rw [inside1] at hx
  obtain ⟨b,hb,hx⟩:=List.mem_flatMap.1 hx
  refine inside_nar ns b.kids (fun c hc => ?_) x hx
  have:=h b (List.mem_filter.1 hb).1
  obtain ⟨_,_,_,hk⟩:=this
  exact hk c hc
theorem inside_sz:∀ (ns:List Str) (l:List Br),lszs (inside1 ns l)≤1+Br.sizes l:=fun ns l=>by
 rw [← insideL_one]
 have key:∀ (ns:List Str) (ls:List (List Br)),lszs (insideL ns ls)≤lszs ls:=by
  intro ns
  induction ns with
  |nil=>intro ls;exact Nat.le_refl _
  |cons n ns ih=>
   intro ls
   rw [insideL_step]
   exact Nat.le_trans (ih _) (stepL_sz n ls)
 have:=key ns [l]
 simpa [lszs] using this
theorem segTexts_ok {t:Str} {els:List El} {el pt:Int} (ht:t.length≤1000) (h:∀ e ∈ els,NarE e):(segTexts t els el pt).length≤20∧∀ s ∈ segTexts t els el pt,s.length≤1000:=by
 unfold segTexts
 split
 ·exact ⟨by simp,fun s hs=>by obtain rfl:=List.mem_singleton.1 hs;exact ht⟩
 ·split
  ·exact ⟨by simp,by simp⟩
  ·rename_i e he
   have hn:=h e (gMem he)
   refine ⟨Nat.le_trans (List.length_filter_le _ _) (Nat.le_trans (List.length_filterMap_le _ _) hn.few),fun s hs => ?_⟩
   have hs:=(List.mem_filter.1 hs).1
   obtain ⟨p,hp,hq⟩:=List.mem_filterMap.1 hs
   exact hn.texts p hp s (gMem hq)
theorem listTexts_ok {tag:Str} {el pt:Int}:∀ (l:List Br),(∀ b ∈ l,b.Nar)→(listTexts tag el pt l).length≤20 * l.length∧∀ s ∈ listTexts tag el pt l,s.length≤1000
 |[],_=>by simp [listTexts]
 |⟨n,t,els,ks⟩::l,h=>by
  obtain ⟨h1,h2⟩:=listTexts_ok (tag:=tag) (el:=el) (pt:=pt) l fun b hb=>h b (by simp [hb])
  obtain ⟨ht,_,he,_⟩:=h ⟨n,t,els,ks⟩ (by simp)
  obtain ⟨g1,g2⟩:=segTexts_ok (el:=el) (pt:=pt) ht he
  have e:listTexts tag el pt (⟨n,t,els,ks⟩::l)=(if n = []∧t=tag then segTexts t els el pt else [])++listTexts tag el pt l:=rfl
  rw [e,List.length_append,List.length_cons]
  constructor
  ·split
   ·omega
   ·simp;omega
  ·intro s hs
   rcases List.mem_append.1 hs with hs|hs
   ·split at hs
    ·exact g2 s hs
    ·cases hs
   ·exact h2 s hs
theorem flatTexts_ok {tag:Str} {el pt:Int}:∀ (ls:List (List Br)),(∀ x ∈ ls,∀ b ∈ x,b.Nar)→(ls.flatMap (listTexts tag el pt)).length≤20 * lszs ls∧∀ s ∈ ls.flatMap (listTexts tag el pt),s.length≤1000
 |[],_=>by simp [lszs]
 |l::ls,h=>by
  obtain ⟨h1,h2⟩:=flatTexts_ok (tag:=tag) (el:=el) (pt:=pt) ls fun x hx=>h x (by simp [hx])
  obtain ⟨g1,g2⟩:=listTexts_ok (tag:=tag) (el:=el) (pt:=pt) l (h l (by simp))
  have:=blen_sizes l
  rw [List.flatMap_cons,List.length_append,lszs]
  refine ⟨by omega,fun s hs => ?_⟩
  rcases List.mem_append.1 hs with hs|hs
  ·exact g2 s hs
  ·exact h2 s hs
theorem findTexts_ok {ns:List Str} {tag:Str} {el pt:Int} {l:List Br} (h:∀ b ∈ l,b.Nar) (hs:Br.sizes l≤100000):(findTexts ns tag el pt l).length≤10000000∧∀ s ∈ findTexts ns tag el pt l,s.length≤1000:=by
 obtain ⟨h1,h2⟩:=flatTexts_ok (tag:=tag) (el:=el) (pt:=pt) (inside1 ns l) (inside_nar ns l h)
 have h3:=inside_sz ns l
 exact ⟨by unfold findTexts;omega,h2⟩
end Go.Proofs.YtdhlopciapncfaaGreatDoor
