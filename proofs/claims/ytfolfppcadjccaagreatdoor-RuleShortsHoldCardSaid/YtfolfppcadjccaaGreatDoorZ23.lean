/- Conditions: their sizes, their atoms, and short ones (plain). Conditions: their atoms, and short ones (plain). Trees of segments, and what is wrong with them (plain). Formulas: conditions whose atoms are numbers (plain). What conditions say of trees (plain). Trees are right, and what is found in them: the program (walks). Trees are right: the program (walks). What is found in trees: the program (walks). Short conditions hold of the same trees, and are short (plain). The atoms of a condition: the program's and the reference's (walks). -/
import Derived.Test.YtfolfppcadjccaaGreatDoorZ16
import Derived.Test.YtfolfppcadjccaaGreatDoorZ20
import Derived.Test.YtfolfppcadjccaaGreatDoorZ22
import Derived.Test.YtfolfppcadjccaaGreatDoorZ18
namespace Go.Proofs.YtfolfppcadjccaaGreatDoor
set_option linter.unusedSimpArgs false
set_option linter.unusedVariables false
open Go.RowKit
def Cond.kind:Cond→Int
 | .mk k _ _ _ _ _=>k
def Cond.kids:Cond→List Cond
 | .mk _ ks _ _ _ _=>ks
mutual
/-- How many parts a condition has. -/
def Cond.size:Cond→Nat
 | .mk _ ks _ _ _ _=>Cond.sizes ks+1
def Cond.sizes:List Cond→Nat
 | []=>0
 | c::l=>c.size+Cond.sizes l
end
theorem size_mk (k:Int) (ks:List Cond) (p:Str) (vs:List Str) (lo hi:Int):(Cond.mk k ks p vs lo hi).size=Cond.sizes ks+1:=by rw [Cond.size]
theorem sizes_cons (c:Cond) (l:List Cond):Cond.sizes (c::l)=c.size+Cond.sizes l:=by rw [Cond.sizes]
theorem size_pos (c:Cond):1≤c.size:=by obtain ⟨k,ks,p,vs,lo,hi⟩:=c;rw [size_mk];omega
theorem len_sizes:∀ l:List Cond,l.length≤Cond.sizes l
 | []=>Nat.zero_le _
 | c::l=>by rw [sizes_cons,List.length_cons];have:=len_sizes l;have:=size_pos c;omega
theorem mem_sizes:∀ {l:List Cond} {x:Cond},x ∈ l→x.size≤Cond.sizes l
 | c::l,x,h=>by
  rw [sizes_cons]
  rcases List.mem_cons.1 h with rfl|h
  ·omega
  ·have:=mem_sizes h;omega
attribute [irreducible] Cond.size Cond.sizes
/-- What every part of a condition is like. -/
inductive Cond.Nice (n:Nat):Cond→Prop where
 | mk {k:Int} {ks:List Cond} {p:Str} {vs:List Str} {lo hi:Int} (h1:ks.length≤n) (h2:vs.length≤1000) (hp:p.length≤9223372036854775807) (hv:∀ v ∈ vs,v.length≤9223372036854775807)
   (hk:k=1∨k=2∨k=3→ks ≠ []) (h4:∀ x ∈ ks,x.Nice n):(Cond.mk k ks p vs lo hi).Nice n
theorem nice_mono {m n:Nat} (h:m≤n) (c:Cond):c.Nice m→c.Nice n:=by
 induction c using Cond.ind with
 | h k ks p vs lo hi ih=>
  rintro ⟨h1,h2,hp,hv,hk,h4⟩
  exact .mk (by omega) h2 hp hv hk fun x hx=>ih x hx (h4 x hx)
theorem nice_small {n:Nat} (hn:n≤1000) (c:Cond):c.Nice n→c.Small:=by
 induction c using Cond.ind with
 | h k ks p vs lo hi ih=>
  rintro ⟨h1,h2,hp,hv,hk,h4⟩
  exact .mk (by omega) h2 fun x hx=>ih x hx (h4 x hx)
theorem nice_txt {n:Nat} (c:Cond):c.Nice n→c.Txt:=by
 induction c using Cond.ind with
 | h k ks p vs lo hi ih=>
  rintro ⟨h1,h2,hp,hv,hk,h4⟩
  exact .mk hp hv fun x hx=>ih x hx (h4 x hx)
/-- What is right has few parts, and each part has what it needs. -/
theorem own_ok {k:Int} {nk:Nat} {p:Str} {vs:List Str} {lo hi:Int} (h:ownErr k nk p vs lo hi=0):vs.length≤1000∧(k=1∨k=2∨k=3→nk ≠ 0):=by
 unfold ownErr at h
 split at h
 ·cases h
 ·split at h
  ·cases h
  ·rename_i hf
   have hf:formB k nk p vs.length lo hi=false:=by simpa using hf
   unfold formB usesOfB overB at hf
   simp only [Bool.or_eq_false_iff] at hf
   obtain ⟨⟨⟨⟨_,_⟩,h3⟩,_⟩,h5⟩:=hf
   refine ⟨?_,fun hk hn => ?_⟩
   ·by_cases h5:k=5
    ·subst h5
     rw [if_neg (by decide)] at h
     split at h
     ·rename_i hh
      omega
     ·rw [if_pos rfl] at h
      unfold valuesErr at h
      split at h
      ·cases h
      ·split at h
       ·cases h
       ·omega
    ·have:decide (0 < vs.length)=false:=by
      rw [Bool.and_eq_false_iff] at h3
      rcases h3 with h3|h3
      ·simp at h3;exact absurd h3 h5
      ·exact h3
     simp at this
     simp [this]
   ·subst hn
    rcases hk with rfl|rfl|rfl<;>simp at h5
theorem chks_ok {d:Int}:∀ (l:List Cond),(∀ c ∈ l,∀ n,0≤n→n≤200→c.Txt→(c.chk d n).2=0→(c.chk d n).1=n+c.size∧c.Nice 200)→∀ n,0≤n→n≤200→(∀ c ∈ l,c.Txt)→(Cond.chks l d n).2=0→(Cond.chks l d n).1=n+Cond.sizes l∧∀ c ∈ l,c.Nice 200
 | [],_,n,_,_,_,_=>by rw [chks_nil];unfold Cond.sizes;exact ⟨by simp,by simp⟩
 | c::l,hc,n,hn0,hn,ht,h=>by
  have hat:=chks_at (l:=c::l) (i:=0) (c:=c) rfl d n
  rw [List.drop_zero] at hat
  rw [hat] at h ⊢
  by_cases he:(c.chk d n).2=0
  ·rw [if_neg (by simp [he])] at h ⊢
   obtain ⟨h1,h2⟩:=hc c (by simp) n hn0 hn (ht c (by simp)) he
   have hb:=(chk_bd c d n hn).2 he
   rw [show List.drop (0+1) (c::l)=l from rfl] at h ⊢
   obtain ⟨h3,h4⟩:=chks_ok l (fun x hx=>hc x (by simp [hx])) _ (by rw [h1];omega) hb (fun x hx=>ht x (by simp [hx])) h
   refine ⟨by rw [h3,h1,sizes_cons];omega,fun x hx => ?_⟩
   rcases List.mem_cons.1 hx with rfl|hx
   ·exact h2
   ·exact h4 x hx
  ·rw [if_pos he] at h
   exact absurd h he
theorem chk_ok (c:Cond):∀ d n:Int,n≤200→0≤n→c.Txt→(c.chk d n).2=0→(c.chk d n).1=n+c.size∧c.Nice 200:=by
 induction c using Cond.ind with
 | h k ks p vs lo hi ih=>
  intro d n hn hn0 ht h
  obtain ⟨hp,hv,hks⟩:=ht
  have hb:=chk_bd (.mk k ks p vs lo hi) d n hn
  rw [chk_mk] at h hb ⊢
  split at h
  ·cases h
  ·rename_i h1
   rw [if_neg h1] at hb ⊢
   split at h
   ·rename_i he
    exact absurd h he
   ·rename_i he
    rw [if_neg he] at hb ⊢
    obtain ⟨h2,h3⟩:=chks_ok (d:=d+1) ks (fun c hc m h0 hm ht hh=>ih c hc (d+1) m hm h0 ht hh) (n+1) (by omega) (by omega) hks h
    obtain ⟨o1,o2⟩:=own_ok (by simpa using he)
    have hl:=len_sizes ks
    have h200:=hb.2 h
    refine ⟨by rw [h2,size_mk];omega,.mk (by omega) o1 hp hv (fun hk e=>o2 hk (by rw [e];rfl)) h3⟩
end Go.Proofs.YtfolfppcadjccaaGreatDoor
namespace Go.Proofs.YtfolfppcadjccaaGreatDoor
set_option linter.unusedSimpArgs false
set_option linter.unusedVariables false
open Go.RowKit
def isAtomB (k:Int):Bool := !(k == 1) && !(k == 2) && !(k == 3)
mutual
/-- How many atoms a condition has, each as often as it stands there. -/
def Cond.acnt:Cond→Nat
 | .mk k ks _ _ _ _=>if isAtomB k=true then 1 else Cond.acnts ks
def Cond.acnts:List Cond→Nat
 | []=>0
 | c::l=>c.acnt+Cond.acnts l
end
theorem acnt_mk (k:Int) (ks:List Cond) (p:Str) (vs:List Str) (lo hi:Int):(Cond.mk k ks p vs lo hi).acnt=if isAtomB k=true then 1 else Cond.acnts ks:=by rw [Cond.acnt]
theorem acnts_nil:Cond.acnts []=0:=by rw [Cond.acnts]
theorem acnts_cons (c:Cond) (l:List Cond):Cond.acnts (c::l)=c.acnt+Cond.acnts l:=by rw [Cond.acnts]
attribute [irreducible] Cond.acnt Cond.acnts
theorem acnts_app:∀ (a b:List Cond),Cond.acnts (a++b)=Cond.acnts a+Cond.acnts b
 | [],b=>by rw [List.nil_append,acnts_nil,Nat.zero_add]
 | c::a,b=>by rw [List.cons_append,acnts_cons,acnts_cons,acnts_app a b,Nat.add_assoc]
theorem acnts_mem:∀ {l:List Cond} {x:Cond},x ∈ l→x.acnt≤Cond.acnts l
 | c::l,x,h=>by
  rw [acnts_cons]
  rcases List.mem_cons.1 h with rfl|h
  ·omega
  ·have:=acnts_mem h;omega
mutual
/-- The atoms of a condition behind others, each once. -/
def Cond.ats:Cond→List Cond→List Cond
 | .mk k ks p vs lo hi,out=>if isAtomB k=true then (if hasC out (.mk k ks p vs lo hi)=true then out else out ++ [.mk k ks p vs lo hi]) else Cond.atss ks out
def Cond.atss:List Cond→List Cond→List Cond
 | [],out=>out
 | c::l,out=>Cond.atss l (c.ats out)
end
theorem ats_mk (k:Int) (ks:List Cond) (p:Str) (vs:List Str) (lo hi:Int) (out:List Cond):(Cond.mk k ks p vs lo hi).ats out=if isAtomB k=true then (if hasC out (.mk k ks p vs lo hi)=true then out else out ++ [.mk k ks p vs lo hi]) else Cond.atss ks out:=by rw [Cond.ats]
theorem atss_nil (out:List Cond):Cond.atss [] out=out:=by rw [Cond.atss]
theorem atss_cons (c:Cond) (l out:List Cond):Cond.atss (c::l) out=Cond.atss l (c.ats out):=by rw [Cond.atss]
attribute [irreducible] Cond.ats Cond.atss
theorem atss_at {l:List Cond} {i:Nat} {c:Cond} (h:l[i]?=some c) (out:List Cond):Cond.atss (l.drop i) out=Cond.atss (l.drop (i+1)) (c.ats out):=by
 rw [List.drop_eq_getElem_cons (List.getElem?_eq_some_iff.1 h).1,(List.getElem?_eq_some_iff.1 h).2,atss_cons]
theorem atss_len:∀ (l:List Cond),(∀ c ∈ l,∀ out,out.length≤(c.ats out).length∧(c.ats out).length≤out.length+c.acnt)→∀ out,out.length≤(Cond.atss l out).length∧(Cond.atss l out).length≤out.length+Cond.acnts l
 | [],_,out=>by rw [atss_nil];rw [acnts_nil];omega
 | c::l,h,out=>by
  obtain ⟨h1,h2⟩:=h c (by simp) out
  obtain ⟨h3,h4⟩:=atss_len l (fun x hx=>h x (by simp [hx])) (c.ats out)
  rw [atss_cons,acnts_cons]
  omega
theorem ats_len (c:Cond):∀ out,out.length≤(c.ats out).length∧(c.ats out).length≤out.length+c.acnt:=by
 induction c using Cond.ind with
 | h k ks p vs lo hi ih=>
  intro out
  rw [ats_mk,acnt_mk]
  split
  ·split
   ·omega
   ·simp
  ·have:=atss_len ks ih out
   omega
/-- Each condition whose parts have what they need has an atom. -/
theorem ats_ne {n:Nat} (c:Cond):c.Nice n→∀ out,c.ats out ≠ []:=by
 induction c using Cond.ind with
 | h k ks p vs lo hi ih=>
  rintro ⟨_,_,_,_,hk,h4⟩ out
  rw [ats_mk]
  split
  ·split
   ·rename_i hh
    intro e
    rw [e] at hh
    simp [hasC] at hh
   ·simp
  ·rename_i ha
   have hk':k=1∨k=2∨k=3:=by
    simp only [isAtomB,Bool.not_eq_true,Bool.and_eq_false_iff,Bool.not_eq_false',beq_iff_eq] at ha
    rcases ha with (h|h)|h
    ·exact .inl h
    ·exact .inr (.inl h)
    ·exact .inr (.inr h)
   cases ks with
   | nil=>exact absurd rfl (hk hk')
   | cons x l=>
    have h1:=ih x (by simp) (h4 x (by simp)) out
    have h2:=(atss_len l (fun c _ o=>ats_len c o) (x.ats out)).1
    rw [atss_cons]
    intro e
    rw [e,List.length_nil] at h2
    have:=List.length_pos_iff.2 h1
    omega
/-- All atoms are like the parts. -/
theorem atss_nice {n:Nat}:∀ (l:List Cond),(∀ c ∈ l,∀ out,(∀ x ∈ out,x.Nice n)→∀ x ∈ c.ats out,x.Nice n)→∀ out,(∀ x ∈ out,x.Nice n)→∀ x ∈ Cond.atss l out,x.Nice n
 | [],_,out,h=>by rw [atss_nil];exact h
 | c::l,hc,out,h=>by
  rw [atss_cons]
  exact atss_nice l (fun x hx=>hc x (by simp [hx])) _ (hc c (by simp) out h)
theorem ats_nice {n:Nat} (c:Cond):c.Nice n→∀ out,(∀ x ∈ out,x.Nice n)→∀ x ∈ c.ats out,x.Nice n:=by
 induction c using Cond.ind with
 | h k ks p vs lo hi ih=>
  intro hn out ho
  have hn':=hn
  obtain ⟨_,_,_,_,hk,h4⟩:=hn'
  rw [ats_mk]
  split
  ·split
   ·exact ho
   ·intro x hx
    rcases List.mem_append.1 hx with hx|hx
    ·exact ho x hx
    ·obtain rfl:=List.mem_singleton.1 hx
     exact hn
  ·exact atss_nice ks (fun c hc=>ih c hc (h4 c hc)) out ho
/-- What stands in a list, and is put there if it isn't yet. -/
def addC (acc:List Cond) (y:Cond):List Cond:=if hasC acc y=true then acc else acc ++ [y]
def innerC (k:Int) (x:Cond):List Cond:=if x.kind=k then x.kids else [x]
def flatC (k:Int):List Cond→List Cond→List Cond
 | [],acc=>acc
 | x::l,acc=>flatC k l ((innerC k x).foldl addC acc)
/-- An All, or Any, whose conditions are short. -/
def severalE (k:Int) (F A:List Cond) (cb:Bool) (p:Str) (vs:List Str) (lo hi:Int):Cond:=
 if F.length=1 then F.headD noneC else if cb=false then .mk k F p vs lo hi else
  if k=1 then notC (anyC [A.headD noneC,notC (A.headD noneC)]) else anyC [A.headD noneC,notC (A.headD noneC)]
def severalC (k:Int) (ks:List Cond) (p:Str) (vs:List Str) (lo hi:Int):Cond:=
 severalE k (flatC k ks []) ((Cond.mk k (flatC k ks []) p vs lo hi).ats []) (contraC (flatC k ks [])) p vs lo hi
def endC (k:Int) (ks:List Cond) (p:Str) (vs:List Str) (lo hi:Int):Cond:=
 if k=3∧(ks.headD noneC).kind=3 then (ks.headD noneC).kids.headD noneC else if k=1∨k=2 then severalC k ks p vs lo hi else .mk k ks p vs lo hi
mutual
def Cond.short:Cond→Cond
 | .mk k ks p vs lo hi=>endC k (Cond.shorts ks) p vs lo hi
def Cond.shorts:List Cond→List Cond
 | [] => []
 | c::l=>c.short::Cond.shorts l
end
theorem shorts_map:∀ l:List Cond,Cond.shorts l=l.map Cond.short
 | []=>by rw [Cond.shorts];rfl
 | c::l=>by rw [Cond.shorts,shorts_map l];rfl
theorem short_mk (k:Int) (ks:List Cond) (p:Str) (vs:List Str) (lo hi:Int):(Cond.mk k ks p vs lo hi).short=endC k (ks.map Cond.short) p vs lo hi:=by rw [Cond.short,shorts_map]
attribute [irreducible] Cond.short
theorem foldl_add {n:Nat}:∀ (l acc:List Cond),(∀ x ∈ acc,x.Nice n)→(∀ x ∈ l,x.Nice n)→(∀ x ∈ l.foldl addC acc,x.Nice n)∧(l.foldl addC acc).length≤acc.length+l.length∧acc.length≤(l.foldl addC acc).length∧(l ≠ []→l.foldl addC acc ≠ [])
 | [],acc,h,_=>⟨h,by simp,by simp,fun h=>absurd rfl h⟩
 | y::l,acc,h,hl=>by
  have key:(∀ x ∈ addC acc y,x.Nice n)∧(addC acc y).length≤acc.length+1∧acc.length≤(addC acc y).length∧addC acc y ≠ []:=by
   unfold addC
   split
   ·rename_i hh
    refine ⟨h,by omega,by omega,fun e => ?_⟩
    rw [e] at hh
    simp [hasC] at hh
   ·refine ⟨fun x hx => ?_,by simp,by simp,by simp⟩
    rcases List.mem_append.1 hx with hx|hx
    ·exact h x hx
    ·obtain rfl:=List.mem_singleton.1 hx
     exact hl _ (by simp)
  obtain ⟨k1,k2,k3,k4⟩:=key
  obtain ⟨g1,g2,g3,_⟩:=foldl_add l (addC acc y) k1 (fun x hx=>hl x (by simp [hx]))
  rw [List.foldl_cons,List.length_cons]
  refine ⟨g1,by omega,by omega,fun _ e => ?_⟩
  rw [e,List.length_nil] at g3
  have:=List.length_pos_iff.2 k4
  omega
theorem nice_kids {n:Nat} {c:Cond} (h:c.Nice n):c.kids.length≤n∧(∀ x ∈ c.kids,x.Nice n)∧(c.kind=1∨c.kind=2∨c.kind=3→c.kids ≠ []):=by
 obtain ⟨h1,_,_,_,hk,h4⟩:=h
 exact ⟨h1,h4,hk⟩
theorem inner_nice {n:Nat} {k:Int} {x:Cond} (hk:k=1∨k=2) (h:x.Nice n) (hn:1≤n):(∀ y ∈ innerC k x,y.Nice n)∧(innerC k x).length≤n∧innerC k x ≠ []:=by
 obtain ⟨h1,h2,h3⟩:=nice_kids h
 unfold innerC
 split
 ·rename_i e
  exact ⟨h2,h1,h3 (by omega)⟩
 ·exact ⟨by simp [h],by simp;omega,by simp⟩
theorem flat_ok {k:Int} (hk:k=1∨k=2) {n:Nat}:∀ l:List Cond,(∀ x ∈ l,x.short.Nice x.size)→Cond.sizes l≤n→∀ acc,(∀ y ∈ acc,y.Nice n)→(∀ y ∈ flatC k (l.map Cond.short) acc,y.Nice n)∧(flatC k (l.map Cond.short) acc).length≤acc.length+Cond.sizes l∧acc.length≤(flatC k (l.map Cond.short) acc).length∧(l ≠ []→flatC k (l.map Cond.short) acc ≠ [])
 | [],_,_,acc,h=>by unfold Cond.sizes;exact ⟨h,by simp [flatC],by simp [flatC],fun h=>absurd rfl h⟩
 | x::l,hx,hn,acc,h=>by
  rw [sizes_cons] at hn
  obtain ⟨i1,i2,i3⟩:=inner_nice hk (hx x (by simp)) (size_pos x)
  obtain ⟨f1,f2,f3,f4⟩:=foldl_add (n:=n) (innerC k x.short) acc h (fun y hy=>nice_mono (by omega) y (i1 y hy))
  obtain ⟨g1,g2,g3,_⟩:=flat_ok hk l (fun y hy=>hx y (by simp [hy])) (by omega) ((innerC k x.short).foldl addC acc) f1
  rw [List.map_cons,flatC,sizes_cons]
  refine ⟨g1,by omega,by omega,fun _ e => ?_⟩
  rw [e,List.length_nil] at g3
  have:=List.length_pos_iff.2 (f4 i3)
  omega
theorem head_nice {n:Nat} {l:List Cond} (h:l ≠ []) (hl:∀ x ∈ l,x.Nice n):(l.headD noneC).Nice n:=by
 cases l with
 | nil=>exact absurd rfl h
 | cons x l=>exact hl x (by simp)
/-- What a short condition is like. -/
theorem short_nice (c:Cond):∀ n,c.Nice n→c.short.Nice c.size:=by
 induction c using Cond.ind with
 | h k ks p vs lo hi ih=>
  rintro n ⟨h1,h2,hp,hv,hk,h4⟩
  have hs:∀ x ∈ ks,x.short.Nice x.size:=fun x hx=>ih x hx n (h4 x hx)
  have hl:=len_sizes ks
  rw [short_mk,size_mk,endC]
  split
  ·rename_i hh
   have hne:ks ≠ []:=hk (by omega)
   cases ks with
   | nil=>exact absurd rfl hne
   | cons x l=>
    have hx:=hs x (by simp)
    obtain ⟨g1,g2,g3⟩:=nice_kids hx
    have hle:=mem_sizes (l:=x::l) (x:=x) (by simp)
    refine nice_mono (m:=x.size) (by omega) _ ?_
    exact head_nice (g3 (by have:=hh.2;simp at this;omega)) g2
  ·split
   ·rename_i hk12
    have hne:ks ≠ []:=hk (by omega)
    obtain ⟨f1,f2,f3,f4⟩:=flat_ok hk12 (n:=Cond.sizes ks+1) ks hs (by omega) [] (by simp)
    have f4:=f4 hne
    rw [severalC,severalE]
    generalize flatC k (ks.map Cond.short) []=F at f1 f2 f3 f4
    have big:(Cond.mk k F p vs lo hi).Nice (Cond.sizes ks+1):=.mk (by simp at f2;omega) h2 hp hv (fun _=>f4) f1
    split
    ·exact head_nice f4 f1
    ·split
     ·exact big
     ·have ha:=head_nice (ats_ne _ big []) (ats_nice _ big [] (by simp))
      generalize ((Cond.mk k F p vs lo hi).ats []).headD noneC=a at ha
      have hks:1≤Cond.sizes ks:=by have:=List.length_pos_iff.2 hne;omega
      have hna:(notC a).Nice (Cond.sizes ks+1):=.mk (by simp) (by simp) (by simp) (by simp) (by simp) (by simpa using ha)
      have hany:(anyC [a,notC a]).Nice (Cond.sizes ks+1):=.mk (by simp;omega) (by simp) (by simp) (by simp) (by simp) (by simp [ha,hna])
      split
      ·exact .mk (by simp) (by simp) (by simp) (by simp) (by simp) (by simpa using hany)
      ·exact hany
   ·refine .mk (by simp;omega) h2 hp hv (fun hk'=>by simp;exact hk hk') fun y hy => ?_
    obtain ⟨x,hx,rfl⟩:=List.mem_map.1 hy
    have:=mem_sizes hx
    exact nice_mono (by omega) _ (hs x hx)
theorem kinds {k:Int} (ha:¬ isAtomB k=true):k=1∨k=2∨k=3:=by
 simp only [isAtomB,Bool.not_eq_true,Bool.and_eq_false_iff,Bool.not_eq_false',beq_iff_eq] at ha
 rcases ha with (h|h)|h
 ·exact .inl h
 ·exact .inr (.inl h)
 ·exact .inr (.inr h)
theorem acnt_pos {n:Nat} (c:Cond):c.Nice n→1≤c.acnt:=by
 induction c using Cond.ind with
 | h k ks p vs lo hi ih=>
  rintro ⟨_,_,_,_,hk,h4⟩
  rw [acnt_mk]
  split
  ·omega
  ·rename_i ha
   cases ks with
   | nil=>exact absurd rfl (hk (kinds ha))
   | cons x l=>
    have:=ih x (by simp) (h4 x (by simp))
    rw [acnts_cons]
    omega
theorem acnts_len {n:Nat}:∀ l:List Cond,(∀ x ∈ l,x.Nice n)→l.length≤Cond.acnts l
 | [],_=>Nat.zero_le _
 | c::l,h=>by
  have h1:=acnt_pos c (h c (by simp))
  have h2:=acnts_len l fun x hx=>h x (by simp [hx])
  rw [acnts_cons,List.length_cons]
  omega
theorem inner_acnt {k:Int} (hk:k=1∨k=2) (x:Cond):Cond.acnts (innerC k x)=x.acnt:=by
 obtain ⟨k',ks,p,vs,lo,hi⟩:=x
 unfold innerC
 split
 ·rename_i e
  have e:k'=k:=e
  subst e
  rw [acnt_mk,if_neg (by rcases hk with rfl|rfl<;>decide)]
  rfl
 ·rw [acnts_cons,acnts_nil,Nat.add_zero]
theorem foldl_acnt:∀ (l acc:List Cond),Cond.acnts (l.foldl addC acc)≤Cond.acnts acc+Cond.acnts l
 | [],acc=>by simp
 | y::l,acc=>by
  have h:=foldl_acnt l (addC acc y)
  have:Cond.acnts (addC acc y)≤Cond.acnts acc+y.acnt:=by
   unfold addC
   split
   ·omega
   ·rw [acnts_app,acnts_cons,acnts_nil];omega
  rw [List.foldl_cons,acnts_cons]
  omega
theorem flat_acnt {k:Int} (hk:k=1∨k=2):∀ (l acc:List Cond),Cond.acnts (flatC k l acc)≤Cond.acnts acc+Cond.acnts l
 | [],acc=>by rw [acnts_nil];exact Nat.le_refl _
 | x::l,acc=>by
  have h:=flat_acnt hk l ((innerC k x).foldl addC acc)
  have h2:=foldl_acnt (innerC k x) acc
  rw [inner_acnt hk] at h2
  rw [flatC,acnts_cons]
  omega
theorem map_acnt:∀ l:List Cond,(∀ x ∈ l,x.short.acnt≤x.acnt)→Cond.acnts (l.map Cond.short)≤Cond.acnts l
 | [],_=>by simp
 | x::l,h=>by
  have h1:=h x (by simp)
  have h2:=map_acnt l fun y hy=>h y (by simp [hy])
  rw [List.map_cons,acnts_cons,acnts_cons]
  omega
theorem atss_atom:∀ (l:List Cond),(∀ c ∈ l,∀ out,(∀ x ∈ out,isAtomB x.kind=true)→∀ x ∈ c.ats out,isAtomB x.kind=true)→∀ out,(∀ x ∈ out,isAtomB x.kind=true)→∀ x ∈ Cond.atss l out,isAtomB x.kind=true
 | [],_,out,h=>by rw [atss_nil];exact h
 | c::l,hc,out,h=>by
  rw [atss_cons]
  exact atss_atom l (fun x hx=>hc x (by simp [hx])) _ (hc c (by simp) out h)
theorem ats_atom (c:Cond):∀ out,(∀ x ∈ out,isAtomB x.kind=true)→∀ x ∈ c.ats out,isAtomB x.kind=true:=by
 induction c using Cond.ind with
 | h k ks p vs lo hi ih=>
  intro out ho
  rw [ats_mk]
  split
  ·rename_i ha
   split
   ·exact ho
   ·intro x hx
    rcases List.mem_append.1 hx with hx|hx
    ·exact ho x hx
    ·obtain rfl:=List.mem_singleton.1 hx
     exact ha
  ·exact atss_atom ks ih out ho
theorem head_mem {l:List Cond} (h:l ≠ []):l.headD noneC ∈ l:=by
 cases l with
 | nil=>exact absurd rfl h
 | cons x l=>simp
/-- A short condition has no more atoms. -/
theorem short_acnt (c:Cond):∀ n,c.Nice n→c.short.acnt≤c.acnt:=by
 induction c using Cond.ind with
 | h k ks p vs lo hi ih=>
  intro n hn
  have hn':=hn
  obtain ⟨h1,h2,hp,hv,hk,h4⟩:=hn'
  have hs:∀ x ∈ ks,x.short.acnt≤x.acnt:=fun x hx=>ih x hx n (h4 x hx)
  have hN:∀ x ∈ ks,x.short.Nice x.size:=fun x hx=>short_nice x n (h4 x hx)
  have hm:=map_acnt ks hs
  rw [short_mk,endC]
  split
  ·rename_i hh
   have hk3:=hh.1
   subst hk3
   rw [acnt_mk,if_neg (by decide)]
   cases ks with
   | nil=>exact absurd rfl (hk (by omega))
   | cons x l=>
    obtain ⟨g1,g2,g3⟩:=nice_kids (hN x (by simp))
    have hk3:x.short.kind=3:=hh.2
    have g3:=g3 (by omega)
    rw [List.map_cons,acnts_cons] at hm
    show (x.short.kids.headD noneC).acnt≤_
    generalize x.short=y at g3 hk3 hm
    obtain ⟨k',ks',p',vs',lo',hi'⟩:=y
    have hk3:k'=3:=hk3
    subst hk3
    rw [acnt_mk,if_neg (by decide)] at hm
    have:=acnts_mem (head_mem g3)
    show (ks'.headD noneC).acnt≤_
    have this:(ks'.headD noneC).acnt≤Cond.acnts ks':=this
    omega
  ·split
   ·rename_i hk12
    have hne:ks ≠ []:=hk (by omega)
    have hf:=flat_acnt hk12 (ks.map Cond.short) []
    rw [acnts_nil,Nat.zero_add] at hf
    obtain ⟨f1,f2,f3,f4⟩:=flat_ok hk12 (n:=Cond.sizes ks+1) ks hN (by omega) [] (by simp)
    have f4:=f4 hne
    rw [acnt_mk,if_neg (by rcases hk12 with rfl|rfl<;>decide),severalC,severalE]
    generalize flatC k (ks.map Cond.short) []=F at hf f1 f4 f2
    have big:(Cond.mk k F p vs lo hi).Nice (Cond.sizes ks+1):=.mk (by simp at f2;omega) h2 hp hv (fun _=>f4) f1
    split
    ·have:=acnts_mem (head_mem f4)
     omega
    ·rename_i hof
     have hlen:2≤F.length:=by
      have:=List.length_pos_iff.2 f4
      omega
     have h2a:=acnts_len F f1
     split
     ·rw [acnt_mk,if_neg (by rcases hk12 with rfl|rfl<;>decide)]
      omega
     ·have ha:=ats_atom (.mk k F p vs lo hi) [] (by simp) _ (head_mem (ats_ne _ big []))
      generalize ((Cond.mk k F p vs lo hi).ats []).headD noneC=a at ha
      have ha1:a.acnt=1:=by
       obtain ⟨k',ks',p',vs',lo',hi'⟩:=a
       rw [acnt_mk]
       exact if_pos ha
      have hany:(anyC [a,notC a]).acnt=2:=by
       rw [anyC,acnt_mk,if_neg (by decide),acnts_cons,acnts_cons,acnts_nil,notC,acnt_mk,if_neg (by decide),acnts_cons,acnts_nil,ha1]
      split
      ·rw [notC,acnt_mk,if_neg (by decide),acnts_cons,acnts_nil,hany]
       omega
      ·omega
   ·rw [acnt_mk,acnt_mk]
    split
    ·omega
    ·exact hm
end Go.Proofs.YtfolfppcadjccaaGreatDoor
namespace Go.Proofs.YtfolfppcadjccaaGreatDoor
set_option linter.unusedSimpArgs false
set_option linter.unusedVariables false
open Go.RowKit
set_option maxRecDepth 100000
/-- An element: its repeats, each of which is parts. -/
abbrev El:=List (List Str)
def partR (s:Str):List D := [.str s]
def repR (p:List Str):List D := [.sl 0 1 (p.map partR)]
def elR (e:El):List D := [.sl 0 1 (e.map repR)]
inductive Br where
 | mk (n t:Str) (els:List El) (kids:List Br)
mutual
/-- Its cells. -/
def Br.row:Br→List D
 | .mk n t els ks => [.str n,.str t,.sl 0 1 (els.map elR),.sl 0 4 (Br.rows ks)]
def Br.rows:List Br→List (List D)
 | [] => []
 | c::l=>c.row::Br.rows l
end
theorem Br.rows_map (l:List Br):Br.rows l=l.map Br.row:=by
 induction l with
 | nil=>rw [Br.rows,List.map_nil]
 | cons c l ih=>rw [Br.rows,List.map_cons,ih]
theorem Br.row_mk (n t:Str) (els:List El) (ks:List Br):(Br.mk n t els ks).row = [.str n,.str t,.sl 0 1 (els.map elR),.sl 0 4 (ks.map Br.row)]:=by
 rw [Br.row,Br.rows_map]
attribute [irreducible] Br.row
theorem Br.ind {p:Br→Prop} (h:∀ n t els ks,(∀ x ∈ ks,p x)→p (.mk n t els ks)) (c:Br):p c:=
 Br.rec (motive_1:=p) (motive_2:=fun l=>∀ x ∈ l,p x) (fun n t els ks ih=>h n t els ks ih) (fun x hx=>by simp at hx) (fun c l h1 h2 x hx=>by
  rcases List.mem_cons.1 hx with rfl|hx
  ·exact h1
  ·exact h2 x hx) c
theorem idx_br {l:List Br} {i:Int} {j:Nat} {n t:Str} {els:List El} {ks:List Br} (h:l[j]?=some (.mk n t els ks)) (hi':i=j):0≤i∧(l.map Br.row)[i.toNat]?=some [.str n,.str t,.sl 0 1 (els.map elR),.sl 0 4 (ks.map Br.row)]:=by
 subst hi'
 refine ⟨by omega,?_⟩
 rw [Int.toNat_natCast,List.getElem?_map,h,Option.map_some,Br.row_mk]
def Br.name:Br→Str
 | .mk n _ _ _=>n
def Br.tag:Br→Str
 | .mk _ t _ _=>t
def Br.els:Br→List El
 | .mk _ _ e _=>e
def Br.kids:Br→List Br
 | .mk _ _ _ k=>k
/-- What is wrong with a text, with parts, repeats, elements, a segment. -/
def textErr (s:Str):Int:=if 1000 < s.length then 2 else if textB s=true then 0 else 3
def partsErr:List Str→Int
 | []=>0
 | s::l=>if textErr s ≠ 0 then textErr s else partsErr l
def repsErr:List (List Str)→Int
 | []=>0
 | p::l=>if p.length=0 then 9 else if 20 < p.length then 2 else if partsErr p ≠ 0 then partsErr p else repsErr l
def elErr (e:El):Int:=if e.length=0 then 9 else if 20 < e.length then 2 else repsErr e
def segElErr:List El→Int
 | []=>0
 | e::l=>if elErr e ≠ 0 then elErr e else segElErr l
def segErr (t:Str) (els:List El):Int:=if isTagB t=false then 5 else if 50 < els.length then 2 else segElErr els
theorem partsErr_at {l:List Str} {i:Nat} {s:Str} (h:l[i]?=some s):partsErr (l.drop i)=if textErr s ≠ 0 then textErr s else partsErr (l.drop (i+1)):=by
 rw [List.drop_eq_getElem_cons (List.getElem?_eq_some_iff.1 h).1,(List.getElem?_eq_some_iff.1 h).2];rfl
theorem repsErr_at {l:List (List Str)} {i:Nat} {p:List Str} (h:l[i]?=some p):repsErr (l.drop i)=if p.length=0 then 9 else if 20 < p.length then 2 else if partsErr p ≠ 0 then partsErr p else repsErr (l.drop (i+1)):=by
 rw [List.drop_eq_getElem_cons (List.getElem?_eq_some_iff.1 h).1,(List.getElem?_eq_some_iff.1 h).2];rfl
theorem segElErr_at {l:List El} {i:Nat} {e:El} (h:l[i]?=some e):segElErr (l.drop i)=if elErr e ≠ 0 then elErr e else segElErr (l.drop (i+1)):=by
 rw [List.drop_eq_getElem_cons (List.getElem?_eq_some_iff.1 h).1,(List.getElem?_eq_some_iff.1 h).2];rfl
def headNamed:List Br→Bool
 | []=>false
 | b::_=>b.name != []
def pathMany (n:Str) (many:Int):Int:=if n = [] then many+1 else many
mutual
/-- How many segments there are, and what is wrong. -/
def Br.chk (deep many:Int):Br→Int × Int
 | .mk n t els ks=>
  if 2000 < pathMany n many∨6 < deep then (pathMany n many,2)
  else if n ≠ []∧isNameB n=false then (pathMany n many,5)
  else if n = []∧0 < ks.length then (pathMany n many,3)
  else if n ≠ []∧(¬ (t = []∧els.length=0)∨ks.length=0∨headNamed ks=true) then (pathMany n many,3)
  else if n = [] then (pathMany n many,segErr t els)
  else Br.chks (deep+1) (pathMany n many) ks
def Br.chks (deep many:Int):List Br→Int × Int
 | []=>(many,0)
 | b::l=>if (b.chk deep many).2 ≠ 0 then b.chk deep many else Br.chks deep (b.chk deep many).1 l
end
theorem bchk_mk (deep many:Int) (n t:Str) (els:List El) (ks:List Br):(Br.mk n t els ks).chk deep many =
  if 2000 < pathMany n many∨6 < deep then (pathMany n many,2)
  else if n ≠ []∧isNameB n=false then (pathMany n many,5)
  else if n = []∧0 < ks.length then (pathMany n many,3)
  else if n ≠ []∧(¬ (t = []∧els.length=0)∨ks.length=0∨headNamed ks=true) then (pathMany n many,3)
  else if n = [] then (pathMany n many,segErr t els)
  else Br.chks (deep+1) (pathMany n many) ks:=by rw [Br.chk]
theorem bchks_nil (deep many:Int):Br.chks deep many []=(many,0):=by rw [Br.chks]
theorem bchks_at {l:List Br} {i:Nat} {b:Br} {deep many:Int} (h:l[i]?=some b):Br.chks deep many (l.drop i)=if (b.chk deep many).2 ≠ 0 then b.chk deep many else Br.chks deep (b.chk deep many).1 (l.drop (i+1)):=by
 rw [List.drop_eq_getElem_cons (List.getElem?_eq_some_iff.1 h).1,(List.getElem?_eq_some_iff.1 h).2,Br.chks]
theorem bchks_cons (deep many:Int) (b:Br) (l:List Br):Br.chks deep many (b::l)=if (b.chk deep many).2 ≠ 0 then b.chk deep many else Br.chks deep (b.chk deep many).1 l:=by
 have:=bchks_at (l:=b::l) (i:=0) (b:=b) (deep:=deep) (many:=many) rfl
 rwa [List.drop_zero] at this
attribute [irreducible] Br.chk Br.chks
def treeErr (l:List Br):Int:=(Br.chks 0 0 l).2
/-- Texts that can be there. -/
inductive Br.Txt:Br→Prop where
 | mk {n t:Str} {els:List El} {ks:List Br} (h1:n.length≤9223372036854775807) (h2:t.length≤9223372036854775807) (h3:∀ e ∈ els,∀ p ∈ e,∀ s ∈ p,s.length≤9223372036854775807) (h4:∀ x ∈ ks,x.Txt) (h5:ks.length≤9223372036854775807):(Br.mk n t els ks).Txt
/-- The lists of branches that names lead to, from lists. -/
def insideL:List Str→List (List Br)→List (List Br)
 | [],ls=>ls
 | n::ns,ls=>insideL ns (ls.flatMap fun l=>(l.filter fun b=>b.name == n).map Br.kids)
/-- The same from one list. -/
def inside1:List Str→List Br→List (List Br)
 | [],l => [l]
 | n::ns,l=>(l.filter fun b=>b.name == n).flatMap fun b=>inside1 ns b.kids
theorem insideL_flat (ns:List Str):∀ ls:List (List Br),insideL ns ls=ls.flatMap (inside1 ns):=by
 induction ns with
 | nil=>intro ls;simp [insideL,inside1]
 | cons n ns ih=>
  intro ls
  rw [insideL,ih,List.flatMap_assoc]
  congr 1
  funext l
  rw [inside1,List.flatMap_map]
theorem insideL_one (ns:List Str) (l:List Br):insideL ns [l]=inside1 ns l:=by rw [insideL_flat];simp
/-- The texts of a segment that a path means: an element (0: the tag), and a part. -/
def segTexts (t:Str) (els:List El) (element part:Int):List Str:=
 if element=0 then [t] else match els[(element - 1).toNat]? with
  | none => []
  | some e=>(e.filterMap fun p=>p[(max part 1 - 1).toNat]?).filter fun s=>s != []
def listTexts (tag:Str) (element part:Int) (l:List Br):List Str:=
 l.flatMap fun b=>if b.name = []∧b.tag=tag then segTexts b.tag b.els element part else []
def findTexts (names:List Str) (tag:Str) (element part:Int) (l:List Br):List Str:=(inside1 names l).flatMap (listTexts tag element part)
end Go.Proofs.YtfolfppcadjccaaGreatDoor
namespace Go.Proofs.YtfolfppcadjccaaGreatDoor
set_option linter.unusedSimpArgs false
set_option linter.unusedVariables false
open Go.RowKit
set_option maxRecDepth 100000
inductive Form where
 | mk (kind atom:Int) (of:List Form)
mutual
/-- Its cells. -/
def Form.row:Form→List D
 | .mk k a fs => [.int .i64 k,.int .i64 a,.sl 0 3 (Form.rows fs)]
def Form.rows:List Form→List (List D)
 | [] => []
 | c::l=>c.row::Form.rows l
end
theorem Form.rows_map (l:List Form):Form.rows l=l.map Form.row:=by
 induction l with
 | nil=>rw [Form.rows,List.map_nil]
 | cons c l ih=>rw [Form.rows,List.map_cons,ih]
theorem Form.row_mk (k a:Int) (fs:List Form):(Form.mk k a fs).row = [.int .i64 k,.int .i64 a,.sl 0 3 (fs.map Form.row)]:=by
 rw [Form.row,Form.rows_map]
attribute [irreducible] Form.row
theorem Form.ind {p:Form→Prop} (h:∀ k a fs,(∀ x ∈ fs,p x)→p (.mk k a fs)) (c:Form):p c:=
 Form.rec (motive_1:=p) (motive_2:=fun l=>∀ x ∈ l,p x) (fun k a fs ih=>h k a fs ih) (fun x hx=>by simp at hx) (fun c l h1 h2 x hx=>by
  rcases List.mem_cons.1 hx with rfl|hx
  ·exact h1
  ·exact h2 x hx) c
/-- A bit of a number. -/
def bitZ (a bits:Int):Bool:=bits / 2 ^ a.toNat % 2 == 1
mutual
/-- Is a formula true, if the atoms with these bits are? -/
def Form.tv (bits:Int):Form→Bool
 | .mk k a fs=>if k=1 then Form.tvA bits fs else if k=2 then Form.tvO bits fs else if k=3 then !Form.tvH bits fs else bitZ a bits
def Form.tvA (bits:Int):List Form→Bool
 | []=>true
 | f::l=>f.tv bits && Form.tvA bits l
def Form.tvO (bits:Int):List Form→Bool
 | []=>false
 | f::l=>f.tv bits || Form.tvO bits l
def Form.tvH (bits:Int):List Form→Bool
 | []=>false
 | f::_=>f.tv bits
end
attribute [irreducible] Form.tv Form.tvA Form.tvO Form.tvH
/-- What a formula needs to be evaluated. -/
inductive Form.Ok:Form→Prop where
 | mk {k a:Int} {fs:List Form} (h1:k=3→fs ≠ []) (h2:k ≠ 1→k ≠ 2→k ≠ 3→0≤a∧a≤62) (h3:∀ x ∈ fs,x.Ok):(Form.mk k a fs).Ok
mutual
/-- Is a condition true, if the atoms with these bits are? -/
def Cond.tv (L:List Cond) (bits:Int):Cond→Bool
 | .mk k ks p vs lo hi=>if k=1 then Cond.tvA L bits ks else if k=2 then Cond.tvO L bits ks else if k=3 then !Cond.tvH L bits ks else bitZ (numC L (.mk k ks p vs lo hi)) bits
def Cond.tvA (L:List Cond) (bits:Int):List Cond→Bool
 | []=>true
 | f::l=>f.tv L bits && Cond.tvA L bits l
def Cond.tvO (L:List Cond) (bits:Int):List Cond→Bool
 | []=>false
 | f::l=>f.tv L bits || Cond.tvO L bits l
def Cond.tvH (L:List Cond) (bits:Int):List Cond→Bool
 | []=>false
 | f::_=>f.tv L bits
end
mutual
/-- The formula of a condition. -/
def Cond.form (L:List Cond):Cond→Form
 | .mk k ks p vs lo hi=>if isAtomB k=true then .mk k (numC L (.mk k ks p vs lo hi)) [] else .mk k 0 (Cond.forms L ks)
def Cond.forms (L:List Cond):List Cond→List Form
 | [] => []
 | c::l=>c.form L::Cond.forms L l
end
theorem atomK {k:Int}:isAtomB k=true↔k ≠ 1∧k ≠ 2∧k ≠ 3:=by
 unfold isAtomB
 simp
 omega
attribute [irreducible] Cond.tv Cond.tvA Cond.tvO Cond.tvH Cond.form Cond.forms
theorem same_refl (c:Cond):c.same c=true:=(Cond.same_iff c c).2 rfl
end Go.Proofs.YtfolfppcadjccaaGreatDoor
namespace Go.Proofs.YtfolfppcadjccaaGreatDoor
set_option linter.unusedSimpArgs false
set_option linter.unusedVariables false
open Go.RowKit
set_option maxRecDepth 100000
theorem allE_congr {α:Type} {p q:α→Bool}:∀ l:List α,(∀ x ∈ l,p x=q x)→l.all p=l.all q
 | [],_=>rfl
 | a::l,h=>by rw [List.all_cons,List.all_cons,h a (by simp),allE_congr l fun x hx=>h x (by simp [hx])]
theorem anyE_congr {α:Type} {p q:α→Bool}:∀ l:List α,(∀ x ∈ l,p x=q x)→l.any p=l.any q
 | [],_=>rfl
 | a::l,h=>by rw [List.any_cons,List.any_cons,h a (by simp),anyE_congr l fun x hx=>h x (by simp [hx])]
def kidsP (p:Str) (t:List Br):List (List Br):=if p = [] then [t] else inside1 (partsAt 47 p) t
def textsP (p:Str) (t:List Br):List Str:=findTexts (wayN p).1.1 (wayN p).1.2.1 (wayN p).1.2.2.1 (wayN p).1.2.2.2 t
def leafL (k:Int) (vs:List Str) (lo hi:Int) (l:List Str):Bool:=
 if k=4 then decide (0 < (l.length:Int)) else if k=6 then !(decide ((l.length:Int) < lo) || decide (hi < l.length)) else if k=5 then l.any (fun s=>vs.contains s) else l.any fun s=>withinB s lo hi
mutual
/-- Does a condition hold of a tree? -/
def Cond.holds:Cond→List Br→Bool
 | .mk k ks p vs lo hi,t=>
  if k=1 then Cond.holdsA ks t else if k=2 then Cond.holdsO ks t else if k=3 then !Cond.holdsH ks t
  else if k=7 then (kidsP p t).all fun l=>Cond.holdsH ks l
  else if k=8 then (kidsP p t).any fun l=>Cond.holdsH ks l
  else leafL k vs lo hi (textsP p t)
def Cond.holdsA:List Cond→List Br→Bool
 | [],_=>true
 | c::l,t=>c.holds t && Cond.holdsA l t
def Cond.holdsO:List Cond→List Br→Bool
 | [],_=>false
 | c::l,t=>c.holds t || Cond.holdsO l t
def Cond.holdsH:List Cond→List Br→Bool
 | [],_=>false
 | c::_,t=>c.holds t
end
theorem holds_mk (k:Int) (ks:List Cond) (p:Str) (vs:List Str) (lo hi:Int) (t:List Br):(Cond.mk k ks p vs lo hi).holds t =
  if k=1 then Cond.holdsA ks t else if k=2 then Cond.holdsO ks t else if k=3 then !Cond.holdsH ks t
  else if k=7 then (kidsP p t).all fun l=>Cond.holdsH ks l
  else if k=8 then (kidsP p t).any fun l=>Cond.holdsH ks l
  else leafL k vs lo hi (textsP p t):=by rw [Cond.holds]
theorem holdsA_all (t:List Br):∀ l:List Cond,Cond.holdsA l t=l.all fun c=>c.holds t
 | []=>by rw [Cond.holdsA];rfl
 | c::l=>by rw [Cond.holdsA,holdsA_all t l,List.all_cons]
theorem holdsO_any (t:List Br):∀ l:List Cond,Cond.holdsO l t=l.any fun c=>c.holds t
 | []=>by rw [Cond.holdsO];rfl
 | c::l=>by rw [Cond.holdsO,holdsO_any t l,List.any_cons]
theorem holdsH_at {l:List Cond} {c:Cond} (h:l[0]?=some c) (t:List Br):Cond.holdsH l t=c.holds t:=by
 cases l with
 | nil=>cases h
 | cons a l=>rw [Cond.holdsH];simp at h;rw [h]
attribute [irreducible] Cond.holds Cond.holdsA Cond.holdsO Cond.holdsH
mutual
/-- What a condition is, if its atoms are as said. -/
def Cond.ev (v:Cond→Bool):Cond→Bool
 | .mk k ks p vs lo hi=>if k=1 then Cond.evA v ks else if k=2 then Cond.evO v ks else if k=3 then !Cond.evH v ks else v (.mk k ks p vs lo hi)
def Cond.evA (v:Cond→Bool):List Cond→Bool
 | []=>true
 | c::l=>c.ev v && Cond.evA v l
def Cond.evO (v:Cond→Bool):List Cond→Bool
 | []=>false
 | c::l=>c.ev v || Cond.evO v l
def Cond.evH (v:Cond→Bool):List Cond→Bool
 | []=>false
 | c::_=>c.ev v
end
theorem holdsH_head (t:List Br) (l:List Cond):Cond.holdsH l t=match l with
  | []=>false
  | c::_=>c.holds t:=by
 cases l
 ·unfold Cond.holdsH;rfl
 ·exact holdsH_at rfl t
attribute [irreducible] Cond.ev Cond.evA Cond.evO Cond.evH
end Go.Proofs.YtfolfppcadjccaaGreatDoor
namespace Go.Proofs.YtfolfppcadjccaaGreatDoor
set_option linter.unusedSimpArgs false
set_option linter.unusedVariables false
open Go.RowKit
set_option maxRecDepth 100000
set_option maxHeartbeats 2000000
theorem idx_str {l:List Str} {i:Int} {j:Nat} {s:Str} (h:l[j]?=some s) (hi:i=j):0≤i∧(l.map partR)[i.toNat]?=some [.str s]:=by
 subst hi
 exact ⟨by omega,by rw [Int.toNat_natCast,List.getElem?_map,h];rfl⟩
theorem idx_rep {l:List (List Str)} {i:Int} {j:Nat} {p:List Str} (h:l[j]?=some p) (hi:i=j):0≤i∧(l.map repR)[i.toNat]?=some [.sl 0 1 (p.map partR)]:=by
 subst hi
 exact ⟨by omega,by rw [Int.toNat_natCast,List.getElem?_map,h];rfl⟩
theorem idx_el {l:List El} {i:Int} {j:Nat} {e:El} (h:l[j]?=some e) (hi:i=j):0≤i∧(l.map elR)[i.toNat]?=some [.sl 0 1 (e.map repR)]:=by
 subst hi
 exact ⟨by omega,by rw [Int.toNat_natCast,List.getElem?_map,h];rfl⟩
theorem textFault_sem (s:Str) (hs:s.length≤9223372036854775807):Sem Tryz.prog 231 [.str s] (.int .i64 (textErr s)):=by
 have h:=isTextAny_sem s
 have hr:textErr s=if 1000 < s.length then 2 else if textB s=true then 0 else 3:=rfl
 generalize textErr s=r at hr ⊢
 generalize textB s=b at h hr
 refine sem_intro (M:=fun t=>mem t [1000051]) hT hM Tryz.func231 inferInstance rfl rfl rfl rfl rfl rfl ?_
 repeat' (
  (conv=>whnf)
  first
   | ((try ((with_reducible first|apply NumE.go|apply IdxE.go|apply TextE.go|apply LookE.go|apply CallE.go);(conv=>whnf)));(with_reducible apply SideD.mk);(focus (first|((try apply givesl);(focus (first|((apply gives_go (h));(focus (exact DLes.au));(focus exact rfl);(all_goals (exact pre)))|((apply gives_go (isText_sem _ _));(focus (exact DLes.au));(focus exact rfl);(all_goals (exact pre)))|((apply gives_go (isTextAny_sem _));(focus (exact DLes.au));(focus exact rfl);(all_goals (exact pre)))));(all_goals exact rfl))|exact side)))
   | ((with_reducible first|apply DrawR.go0|apply KerB.mk);(focus kernel_rfl))
   | (with_reducible first|apply ends_ret|apply ends_norm|apply Halt'.mk)
   | ((with_reducible apply CondD.mk)<;>intro hb<;>(try simp only [SPLT] at hb)<;>(try first|exact noB)))
 all_goals (try exact (false:Bool))
 ·rw [if_pos (by omega)] at hr
  subst hr
  repeat' ((conv=>whnf);first|exact endR|(with_reducible first|apply And.intro|apply endsO_ret|apply endsO_norm|apply DLes.cons))
  all_goals (conv=>whnf)
 ·subst hb
  rw [if_neg (by omega),if_neg (by simp)] at hr
  subst hr
  repeat' ((conv=>whnf);first|exact endR|(with_reducible first|apply And.intro|apply endsO_ret|apply endsO_norm|apply DLes.cons))
  all_goals (conv=>whnf)
 ·subst hb
  rw [if_neg (by omega),if_pos rfl] at hr
  subst hr
  repeat' ((conv=>whnf);first|exact endR|(with_reducible first|apply And.intro|apply endsO_ret|apply endsO_norm|apply DLes.cons))
  all_goals (conv=>whnf)
theorem elementFault_sem (e:El) (ht:∀ p ∈ e,∀ s ∈ p,s.length≤9223372036854775807):Sem Tryz.prog 194 [.agg [.sl 0 1 (e.map repR)]] (.int .i64 (elErr e)):=by
 refine sem_lenA 0 0 rfl rfl rfl fun hl => ?_
 rw [List.length_map] at hl
 have hll:(e.map repR).length=e.length:=List.length_map _
 have hr:elErr e=if e.length=0 then 9 else if 20 < e.length then 2 else repsErr e:=rfl
 generalize elErr e=r at hr ⊢
 refine sem_intro (M:=fun t=>mem t [1000051]) hT hM Tryz.func194 inferInstance rfl rfl rfl rfl rfl rfl ?_
 repeat' (
  (conv=>whnf)
  first
   | ((try ((with_reducible first|apply NumE.go|apply IdxE.go|apply TextE.go|apply LookE.go|apply CallE.go);(conv=>whnf)));(with_reducible apply SideD.mk);(focus (first|((try apply givesl);(focus (((apply gives_go (textFault_sem _ _));(focus (exact DLes.au));(focus exact rfl);(all_goals (exact pre)))));(all_goals exact rfl))|exact side)))
   | ((with_reducible first|apply DrawR.go0|apply KerB.mk);(focus kernel_rfl))
   | (with_reducible first|apply ends_ret|apply ends_norm|apply Halt'.mk)
   | ((with_reducible apply CondD.mk)<;>intro hb<;>(try simp only [SPLT] at hb)<;>(try first|exact noB)))
 all_goals (try exact (false:Bool))
 ·rw [if_pos (by simpa using hb)] at hr
  subst hr
  repeat' ((conv=>whnf);first|exact endR|(with_reducible first|apply And.intro|apply endsO_ret|apply endsO_norm|apply DLes.cons))
  all_goals (conv=>whnf)
 ·rw [if_neg (by omega),if_pos (by omega)] at hr
  subst hr
  repeat' ((conv=>whnf);first|exact endR|(with_reducible first|apply And.intro|apply endsO_ret|apply endsO_norm|apply DLes.cons))
  all_goals (conv=>whnf)
 ·rw [if_neg (by omega),if_neg (by omega)] at hr
  refine loop_go (M:=fun t=>mem t [1000051]) hT hM (fun i:Nat => [(19,.int .i64 i)]) (fun i=>i≤e.length∧repsErr (e.drop i)=r) (fun i=>e.length - i) (0) ?_ ?_ ?_
  ·(conv=>whnf)
   refine ⟨?_,by rfl⟩
   repeat' ((conv=>whnf);first|exact endF|exact endF2|with_reducible apply DLes.cons)
  ·exact ⟨Nat.zero_le _,hr.symm⟩
  ·rintro i ⟨hi,hv⟩
   cases hx:e[i]? with
   | none=>
    have hm:=List.getElem?_eq_none_iff.1 hx
    rw [List.drop_of_length_le hm] at hv
    subst hv
    repeat' (
     (conv=>whnf)
     first
      | ((try ((with_reducible first|apply NumE.go|apply IdxE.go|apply TextE.go|apply LookE.go|apply CallE.go);(conv=>whnf)));(with_reducible apply SideD.mk);(focus (first|((try apply givesl);(focus (((apply gives_go (textFault_sem _ _));(focus (exact DLes.au));(focus exact rfl);(all_goals (exact pre)))));(all_goals exact rfl))|exact side)))
      | ((with_reducible first|apply DrawR.go0|apply KerB.mk);(focus kernel_rfl))
      | (with_reducible first|apply ends_ret|apply ends_norm|apply Halt'.mk)
      | ((with_reducible apply CondD.mk)<;>intro hb<;>(try simp only [SPLT] at hb)<;>(try first|exact noB)))
    all_goals (try exact (false:Bool))
    repeat' ((conv=>whnf);first|exact endR|(with_reducible first|apply And.intro|apply endsO_ret|apply endsO_norm|apply DLes.cons))
    all_goals (conv=>whnf)
   | some p=>
    have hlt:=(List.getElem?_eq_some_iff.1 hx).1
    have htp:=ht p (List.mem_of_getElem? hx)
    rw [repsErr_at hx] at hv
    have hpl:(p.map partR).length=p.length:=List.length_map _
    repeat' (
     (conv=>whnf)
     first
      | ((try ((with_reducible first|apply NumE.go|apply IdxE.go|apply TextE.go|apply LookE.go|apply CallE.go);(conv=>whnf)));(with_reducible apply SideD.mk);(focus (first|(exact idx_rep hx rfl)|((try apply givesl);(focus (((apply gives_go (textFault_sem _ _));(focus (exact DLes.au));(focus exact rfl);(all_goals (exact pre)))));(all_goals exact rfl))|exact side)))
      | ((with_reducible first|apply DrawR.go0|apply KerB.mk);(focus kernel_rfl))
      | (with_reducible first|apply ends_ret|apply ends_norm|apply Halt'.mk)
      | ((with_reducible apply CondD.mk)<;>intro hb<;>(try simp only [SPLT] at hb)<;>(try first|exact noB)))
    all_goals (try exact (false:Bool))
    ·rw [if_pos (by simpa using hb)] at hv
     subst hv
     repeat' ((conv=>whnf);first|exact endR|(with_reducible first|apply And.intro|apply endsO_ret|apply endsO_norm|apply DLes.cons))
     all_goals (conv=>whnf)
    ·rw [if_neg (by omega),if_pos (by omega)] at hv
     subst hv
     repeat' ((conv=>whnf);first|exact endR|(with_reducible first|apply And.intro|apply endsO_ret|apply endsO_norm|apply DLes.cons))
     all_goals (conv=>whnf)
    ·rw [if_neg (by omega),if_neg (by omega)] at hv
     generalize hrest:repsErr (e.drop (i+1))=rest at hv
     refine loop_go (M:=fun t=>mem t [1000051]) hT hM (fun k:Nat => [(31,.int .i64 k)]) (fun k=>k≤p.length∧(if partsErr (p.drop k) ≠ 0 then partsErr (p.drop k) else rest)=r) (fun k=>p.length - k) (0) ?_ ?_ ?_
     ·(conv=>whnf)
      refine ⟨?_,by rfl⟩
      repeat' ((conv=>whnf);first|exact endF|exact endF2|with_reducible apply DLes.cons)
     ·exact ⟨Nat.zero_le _,by simpa using hv⟩
     ·rintro k ⟨hk,hw⟩
      cases hy:p[k]? with
      | none=>
       have hm:=List.getElem?_eq_none_iff.1 hy
       rw [List.drop_of_length_le hm,if_neg (by simp [partsErr])] at hw
       subst hw
       repeat' (
        (conv=>whnf)
        first
         | ((try ((with_reducible first|apply NumE.go|apply IdxE.go|apply TextE.go|apply LookE.go|apply CallE.go);(conv=>whnf)));(with_reducible apply SideD.mk);(focus (first|((try apply givesl);(focus (((apply gives_go (textFault_sem _ _));(focus (exact DLes.au));(focus exact rfl);(all_goals (exact pre)))));(all_goals exact rfl))|exact side)))
         | ((with_reducible first|apply DrawR.go0|apply KerB.mk);(focus kernel_rfl))
         | (with_reducible first|apply ends_ret|apply ends_norm|apply Halt'.mk)
         | ((with_reducible apply CondD.mk)<;>intro hb<;>(try simp only [SPLT] at hb)<;>(try first|exact noB)))
       all_goals (try exact (false:Bool))
       refine ⟨i+1,⟨by omega,hrest⟩,by omega,?_⟩
       (conv=>whnf)
       refine ⟨?_,by rfl⟩
       repeat' ((conv=>whnf);first|exact endF|exact endF2|with_reducible apply DLes.cons)
      | some s=>
       have hlk:=(List.getElem?_eq_some_iff.1 hy).1
       have hs:=textFault_sem s (htp s (List.mem_of_getElem? hy))
       rw [partsErr_at hy] at hw
       generalize textErr s=te at hs hw
       repeat' (
        (conv=>whnf)
        first
         | ((try ((with_reducible first|apply NumE.go|apply IdxE.go|apply TextE.go|apply LookE.go|apply CallE.go);(conv=>whnf)));(with_reducible apply SideD.mk);(focus (first|(exact idx_str hy rfl)|((try apply givesl);(focus (first|((apply gives_go (hs));(focus (exact DLes.au));(focus exact rfl);(all_goals (exact pre)))|((apply gives_go (textFault_sem _ _));(focus (exact DLes.au));(focus exact rfl);(all_goals (exact pre)))));(all_goals exact rfl))|exact side)))
         | ((with_reducible first|apply DrawR.go0|apply KerB.mk);(focus kernel_rfl))
         | (with_reducible first|apply ends_ret|apply ends_norm|apply Halt'.mk)
         | ((with_reducible apply CondD.mk)<;>intro hb<;>(try simp only [SPLT] at hb)<;>(try first|exact noB)))
       all_goals (try exact (false:Bool))
       ·rw [if_pos hb,if_pos hb] at hw
        subst hw
        repeat' ((conv=>whnf);first|exact endR|(with_reducible first|apply And.intro|apply endsO_ret|apply endsO_norm|apply DLes.cons))
        all_goals (conv=>whnf)
       ·subst hb
        simp only [ne_eq,not_true_eq_false,ite_false] at hw
        refine ⟨k+1,⟨by omega,hw⟩,by omega,?_⟩
        (conv=>whnf)
        refine ⟨?_,by rfl⟩
        repeat' ((conv=>whnf);first|exact endF|exact endF2|with_reducible apply DLes.cons)
theorem checkSegs_sem (t:Str) (els:List El) (htl:t.length≤9223372036854775807) (ht:∀ e ∈ els,∀ p ∈ e,∀ s ∈ p,s.length≤9223372036854775807):Sem Tryz.prog 150 [.sl 0 2 [[.str t,.sl 0 1 (els.map elR)]]] (.int .i64 (segErr t els)):=by
 have h1:=isTag_sem t htl
 have hll:(els.map elR).length=els.length:=List.length_map _
 have hr:segErr t els=if isTagB t=false then 5 else if 50 < els.length then 2 else segElErr els:=rfl
 generalize segErr t els=r at hr ⊢
 generalize isTagB t=tb at h1 hr
 refine sem_intro (M:=fun t=>mem t [1000051]) hT hM Tryz.func150 inferInstance rfl rfl rfl rfl rfl rfl ?_
 repeat' (
  (conv=>whnf)
  first
   | ((try ((with_reducible first|apply NumE.go|apply IdxE.go|apply TextE.go|apply LookE.go|apply CallE.go);(conv=>whnf)));(with_reducible apply SideD.mk);(focus (first|((try apply givesl);(focus (((first|apply gives_go (isTag_sem _ _)|apply gives_go (elementFault_sem _ _));(focus (exact DLes.au));(focus exact rfl);(all_goals (exact pre)))));(all_goals exact rfl))|exact side)))
   | ((with_reducible first|apply DrawR.go0|apply KerB.mk);(focus kernel_rfl))
   | (with_reducible first|apply ends_ret|apply ends_norm|apply Halt'.mk)
   | ((with_reducible apply CondD.mk)<;>intro hb<;>(try simp only [SPLT] at hb)<;>(try first|exact noB)))
 all_goals (try exact (false:Bool))
 refine loop_go (M:=fun t=>mem t [1000051]) hT hM (fun i:Nat => [(13,.int .i64 i)]) (fun i=>i=0∨(i=1∧r=0)) (fun i=>2 - i) (0) ?_ ?_ ?_
 ·(conv=>whnf)
  refine ⟨?_,by rfl⟩
  repeat' ((conv=>whnf);first|exact endF|exact endF2|with_reducible apply DLes.cons)
 ·exact .inl rfl
 ·rintro i (rfl|⟨rfl,hr0⟩)
  ·repeat' (
    (conv=>whnf)
    first
     | ((try ((with_reducible first|apply NumE.go|apply IdxE.go|apply TextE.go|apply LookE.go|apply CallE.go);(conv=>whnf)));(with_reducible apply SideD.mk);(focus (first|(exact ⟨by decide,rfl⟩)|((try apply givesl);(focus (first|((apply gives_go (h1));(focus (exact DLes.au));(focus exact rfl);(all_goals (exact pre)))|((first|apply gives_go (isTag_sem _ _)|apply gives_go (elementFault_sem _ _));(focus (exact DLes.au));(focus exact rfl);(all_goals (exact pre)))));(all_goals exact rfl))|exact side)))
     | ((with_reducible first|apply DrawR.go0|apply KerB.mk);(focus kernel_rfl))
     | (with_reducible first|apply ends_ret|apply ends_norm|apply Halt'.mk)
     | ((with_reducible apply CondD.mk)<;>intro hb<;>(try simp only [SPLT] at hb)<;>(try first|exact noB)))
   all_goals (try exact (false:Bool))
   ·rw [if_pos (by simpa using hb)] at hr
    subst hr
    repeat' ((conv=>whnf);first|exact endR|(with_reducible first|apply And.intro|apply endsO_ret|apply endsO_norm|apply DLes.cons))
    all_goals (conv=>whnf)
   ·rw [if_neg (by simp_all),if_pos (by omega)] at hr
    subst hr
    repeat' ((conv=>whnf);first|exact endR|(with_reducible first|apply And.intro|apply endsO_ret|apply endsO_norm|apply DLes.cons))
    all_goals (conv=>whnf)
   ·rw [if_neg (by simp_all),if_neg (by omega)] at hr
    refine loop_go (M:=fun t=>mem t [1000051]) hT hM (fun i:Nat => [(28,.int .i64 i)]) (fun i=>i≤els.length∧segElErr (els.drop i)=r) (fun i=>els.length - i) (0) ?_ ?_ ?_
    ·(conv=>whnf)
     refine ⟨?_,by rfl⟩
     repeat' ((conv=>whnf);first|exact endF|exact endF2|with_reducible apply DLes.cons)
    ·exact ⟨Nat.zero_le _,hr.symm⟩
    ·rintro i ⟨hi,hv⟩
     cases hx:els[i]? with
     | none=>
      have hm:=List.getElem?_eq_none_iff.1 hx
      rw [List.drop_of_length_le hm] at hv
      repeat' (
       (conv=>whnf)
       first
        | ((try ((with_reducible first|apply NumE.go|apply IdxE.go|apply TextE.go|apply LookE.go|apply CallE.go);(conv=>whnf)));(with_reducible apply SideD.mk);(focus (first|((try apply givesl);(focus (((first|apply gives_go (isTag_sem _ _)|apply gives_go (elementFault_sem _ _));(focus (exact DLes.au));(focus exact rfl);(all_goals (exact pre)))));(all_goals exact rfl))|exact side)))
        | ((with_reducible first|apply DrawR.go0|apply KerB.mk);(focus kernel_rfl))
        | (with_reducible first|apply ends_ret|apply ends_norm|apply Halt'.mk)
        | ((with_reducible apply CondD.mk)<;>intro hb<;>(try simp only [SPLT] at hb)<;>(try first|exact noB)))
      all_goals (try exact (false:Bool))
      refine ⟨1,.inr ⟨rfl,hv.symm⟩,by omega,?_⟩
      (conv=>whnf)
      refine ⟨?_,by rfl⟩
      repeat' ((conv=>whnf);first|exact endF|exact endF2|with_reducible apply DLes.cons)
     | some e=>
      have hlt:=(List.getElem?_eq_some_iff.1 hx).1
      have h2:=elementFault_sem e (ht e (List.mem_of_getElem? hx))
      rw [segElErr_at hx] at hv
      generalize elErr e=ee at h2 hv
      repeat' (
       (conv=>whnf)
       first
        | ((try ((with_reducible first|apply NumE.go|apply IdxE.go|apply TextE.go|apply LookE.go|apply CallE.go);(conv=>whnf)));(with_reducible apply SideD.mk);(focus (first|(exact idx_el hx rfl)|((try apply givesl);(focus (first|((apply gives_go (h2));(focus (exact DLes.au));(focus exact rfl);(all_goals (exact pre)))|((first|apply gives_go (isTag_sem _ _)|apply gives_go (elementFault_sem _ _));(focus (exact DLes.au));(focus exact rfl);(all_goals (exact pre)))));(all_goals exact rfl))|exact side)))
        | ((with_reducible first|apply DrawR.go0|apply KerB.mk);(focus kernel_rfl))
        | (with_reducible first|apply ends_ret|apply ends_norm|apply Halt'.mk)
        | ((with_reducible apply CondD.mk)<;>intro hb<;>(try simp only [SPLT] at hb)<;>(try first|exact noB)))
      all_goals (try exact (false:Bool))
      ·rw [if_pos hb] at hv
       subst hv
       repeat' ((conv=>whnf);first|exact endR|(with_reducible first|apply And.intro|apply endsO_ret|apply endsO_norm|apply DLes.cons))
       all_goals (conv=>whnf)
      ·rw [if_neg (by simpa using hb)] at hv
       refine ⟨i+1,⟨by omega,hv⟩,by omega,?_⟩
       (conv=>whnf)
       refine ⟨?_,by rfl⟩
       repeat' ((conv=>whnf);first|exact endF|exact endF2|with_reducible apply DLes.cons)
  ·subst hr0
   repeat' (
    (conv=>whnf)
    first
     | ((try ((with_reducible first|apply NumE.go|apply IdxE.go|apply TextE.go|apply LookE.go|apply CallE.go);(conv=>whnf)));(with_reducible apply SideD.mk);(focus (first|((try apply givesl);(focus (((first|apply gives_go (isTag_sem _ _)|apply gives_go (elementFault_sem _ _));(focus (exact DLes.au));(focus exact rfl);(all_goals (exact pre)))));(all_goals exact rfl))|exact side)))
     | ((with_reducible first|apply DrawR.go0|apply KerB.mk);(focus kernel_rfl))
     | (with_reducible first|apply ends_ret|apply ends_norm|apply Halt'.mk)
     | ((with_reducible apply CondD.mk)<;>intro hb<;>(try simp only [SPLT] at hb)<;>(try first|exact noB)))
   all_goals (try exact (false:Bool))
   repeat' ((conv=>whnf);first|exact endR|(with_reducible first|apply And.intro|apply endsO_ret|apply endsO_norm|apply DLes.cons))
   all_goals (conv=>whnf)
theorem isZero_sem (t:Str) (rows:List (List D)):Sem Tryz.prog 149 [.agg [.str t,.sl 0 1 rows]] (.bool (t == [] && ((rows.length:Int) == 0))):=by
 refine sem_intro (M:=fun t=>mem t [1000051]) hT hM Tryz.func149 inferInstance rfl rfl rfl rfl rfl rfl ?_
 repeat' (
  (conv=>whnf)
  first
   | ((try ((with_reducible first|apply NumE.go|apply IdxE.go|apply TextE.go|apply LookE.go|apply CallE.go);(conv=>whnf)));(with_reducible apply SideD.mk);(focus ((first|(intro hc;have hc0:=hc;(try simp only [SPLT] at hc);(try refine And.intro (by first|exact hc0|exact ⟨hc0,hc0⟩|exact ⟨hc0,hc0,hc0⟩) ?_))|skip);first|exact sideG)))
   | ((with_reducible first|apply DrawR.go0|apply KerB.mk);(focus kernel_rfl))
   | (with_reducible first|apply ends_ret|apply ends_norm|apply Halt'.mk)
   | ((with_reducible apply CondD.mk)<;>intro hb<;>(try simp only [SPLT] at hb)<;>(try first|exact noB)))
 all_goals (try exact (false:Bool))
 repeat' ((conv=>whnf);first|exact endR|(with_reducible first|apply And.intro|apply endsO_ret|apply endsO_norm|apply DLes.cons))
 all_goals (conv=>whnf)
end Go.Proofs.YtfolfppcadjccaaGreatDoor
namespace Go.Proofs.YtfolfppcadjccaaGreatDoor
set_option linter.unusedSimpArgs false
set_option linter.unusedVariables false
open Go.RowKit
set_option maxRecDepth 100000
set_option maxHeartbeats 4000000
theorem bchks_bd {d:Int}:∀ (l:List Br),(∀ c ∈ l,∀ n,n≤2000→n≤(c.chk d n).1∧((c.chk d n).2=0→(c.chk d n).1≤2000))→∀ n,n≤2000→n≤(Br.chks d n l).1∧((Br.chks d n l).2=0→(Br.chks d n l).1≤2000)
 | [],_,n,h=>by rw [bchks_nil];exact ⟨Int.le_refl _,fun _=>h⟩
 | c::l,hc,n,h=>by
  obtain ⟨h1,h2⟩:=hc c (by simp) n h
  have hat:=bchks_at (l:=c::l) (i:=0) (b:=c) (deep:=d) (many:=n) rfl
  rw [List.drop_zero] at hat
  rw [hat]
  by_cases he:(c.chk d n).2=0
  ·rw [if_neg (by simp [he])]
   obtain ⟨h3,h4⟩:=bchks_bd l (fun x hx=>hc x (by simp [hx])) _ (h2 he)
   rw [show List.drop (0+1) (c::l)=l from rfl]
   exact ⟨by omega,h4⟩
  ·rw [if_pos he]
   exact ⟨by omega,fun e=>absurd e he⟩
/-- The segments that were counted are not too many. -/
theorem bchk_bd (b:Br):∀ d n:Int,n≤2000→n≤(b.chk d n).1∧((b.chk d n).2=0→(b.chk d n).1≤2000):=by
 induction b using Br.ind with
 | h nm t els ks ih=>
  intro d n hn
  have hp:n≤pathMany nm n∧pathMany nm n≤n+1:=by unfold pathMany;split<;>omega
  rw [bchk_mk]
  split
  ·exact ⟨hp.1,fun e=>by cases e⟩
  ·rename_i h1
   split
   ·exact ⟨hp.1,fun e=>by cases e⟩
   ·split
    ·exact ⟨hp.1,fun e=>by cases e⟩
    ·split
     ·exact ⟨hp.1,fun e=>by cases e⟩
     ·split
      ·exact ⟨hp.1,fun _=>by dsimp only;omega⟩
      ·obtain ⟨h2,h3⟩:=bchks_bd (d:=d+1) ks (fun c hc n hn=>ih c hc (d+1) n hn) (pathMany nm n) (by omega)
       exact ⟨by omega,h3⟩
theorem branchL_sem (l:List Br) (d n:Int) (hd0:0≤d) (hd:d≤1000) (hn0:0≤n) (hn:n≤2000) (hl:l.length≤9223372036854775807) (ih:∀ x ∈ l,∀ m:Int,0≤m→m≤2000→SemO Tryz.prog 96 (.obj [.int .i64 m]) [.agg x.row,.int .i64 d] (.int .i64 (x.chk d m).2) (some (.obj [.int .i64 (x.chk d m).1]))):SemO Tryz.prog 52 (.obj [.int .i64 n]) [.sl 0 4 (l.map Br.row),.int .i64 d] (.int .i64 (Br.chks d n l).2) (some (.obj [.int .i64 (Br.chks d n l).1])):=by
 have hll:(l.map Br.row).length=l.length:=List.length_map _
 generalize hr:Br.chks d n l=r
 refine semO_intro (M:=fun t=>mem t [0,8,1000051,1000052,1000096]) hT hM Tryz.func52 inferInstance rfl rfl rfl rfl rfl rfl rfl rfl rfl ?_
 repeat' (
  (conv=>whnf)
  first
   | ((try ((with_reducible first|apply NumE.go|apply IdxE.go|apply TextE.go|apply LookE.go|apply CallE.go);(conv=>whnf)));(with_reducible apply SideD.mk);(focus (first|exact side)))
   | ((with_reducible apply CallO.go);(conv=>whnf);(with_reducible apply SideD.mk);(focus (first|((apply giveso_go (branchO_sem _ _ _ _ _ _ _ _));(focus (first|exact rfl|(simp;done)));(focus (exact DLes.au));(focus exact rfl);(all_goals (exact pre))))))
   | ((with_reducible first|apply DrawR.go0|apply KerB.mk);(focus kernel_rfl))
   | (with_reducible first|apply ends_ret|apply ends_norm|apply Halt'.mk)
   | ((with_reducible apply CondD.mk)<;>intro hb<;>(try simp only [SPLT] at hb)<;>(try first|exact noB)))
 all_goals (try exact (false:Bool))
 refine loop_go (M:=fun t=>mem t [0,8,1000051,1000052,1000096]) hT hM (fun x:Nat × Int => [(12,.int .i64 x.1),(0,.obj [.int .i64 x.2])]) (fun x=>x.1≤l.length∧0≤x.2∧x.2≤2000∧Br.chks d x.2 (l.drop x.1)=r) (fun x=>l.length - x.1) ((0,n)) ?_ ?_ ?_
 ·(conv=>whnf)
  refine ⟨?_,by rfl⟩
  repeat' ((conv=>whnf);first|exact endF|exact endF2|with_reducible apply DLes.cons)
 ·exact ⟨Nat.zero_le _,hn0,hn,hr⟩
 ·rintro ⟨i,m⟩ ⟨hi,hm1,hm2,hv⟩
  dsimp only at hi hm1 hm2 hv ⊢
  cases hx:l[i]? with
  | none=>
   have hm:=List.getElem?_eq_none_iff.1 hx
   rw [List.drop_of_length_le hm,bchks_nil] at hv
   subst hv
   repeat' (
    (conv=>whnf)
    first
     | ((try ((with_reducible first|apply NumE.go|apply IdxE.go|apply TextE.go|apply LookE.go|apply CallE.go);(conv=>whnf)));(with_reducible apply SideD.mk);(focus (first|exact side)))
     | ((with_reducible apply CallO.go);(conv=>whnf);(with_reducible apply SideD.mk);(focus (first|((apply giveso_go (branchO_sem _ _ _ _ _ _ _ _));(focus (first|exact rfl|(simp;done)));(focus (exact DLes.au));(focus exact rfl);(all_goals (exact pre))))))
     | ((with_reducible first|apply DrawR.go0|apply KerB.mk);(focus kernel_rfl))
     | (with_reducible first|apply ends_ret|apply ends_norm|apply Halt'.mk)
     | ((with_reducible apply CondD.mk)<;>intro hb<;>(try simp only [SPLT] at hb)<;>(try first|exact noB)))
   all_goals (try exact (false:Bool))
   repeat' ((conv=>whnf);first|exact endR|(with_reducible first|apply And.intro|apply endsO_ret|apply endsO_norm|apply DLes.cons))
   all_goals (conv=>whnf)
  | some x=>
   have hlt:=(List.getElem?_eq_some_iff.1 hx).1
   obtain ⟨hb1,hb2⟩:=bchk_bd x d m hm2
   have ih':=ih x (List.mem_of_getElem? hx) m hm1 hm2
   rw [bchks_at hx] at hv
   generalize x.chk d m=y at hv ih' hb1 hb2
   obtain ⟨m2,e2⟩:=y
   obtain ⟨n1,t1,els1,ks1⟩:=x
   rw [Br.row_mk] at ih'
   dsimp only at hv ih' hb1 hb2
   repeat' (
    (conv=>whnf)
    first
     | ((try ((with_reducible first|apply NumE.go|apply IdxE.go|apply TextE.go|apply LookE.go|apply CallE.go);(conv=>whnf)));(with_reducible apply SideD.mk);(focus (first|(exact idx_br hx rfl)|exact side)))
     | ((with_reducible apply CallO.go);(conv=>whnf);(with_reducible apply SideD.mk);(focus (first|((apply giveso_go (ih'));(focus (first|exact rfl|(simp;done)));(focus (exact DLes.au));(focus exact rfl);(all_goals (exact pre))))))
     | ((with_reducible first|apply DrawR.go0|apply KerB.mk);(focus kernel_rfl))
     | (with_reducible first|apply ends_ret|apply ends_norm|apply Halt'.mk)
     | ((with_reducible apply CondD.mk)<;>intro hb<;>(try simp only [SPLT] at hb)<;>(try first|exact noB)))
   all_goals (try exact (false:Bool))
   ·rw [if_pos (by omega)] at hv
    subst hv
    repeat' ((conv=>whnf);first|exact endR|(with_reducible first|apply And.intro|apply endsO_ret|apply endsO_norm|apply DLes.cons))
    all_goals (conv=>whnf)
   ·rw [if_neg (by omega)] at hv
    refine ⟨(i+1,m2),⟨by dsimp only;omega,by dsimp only;omega,by dsimp only;omega,hv⟩,by dsimp only;omega,?_⟩
    (conv=>whnf)
    refine ⟨?_,by rfl⟩
    repeat' ((conv=>whnf);first|exact endF|exact endF2|with_reducible apply DLes.cons)
theorem branch_sem (b:Br):b.Txt→∀ d n:Int,0≤n→n≤2000→0≤d→d≤1000→SemO Tryz.prog 96 (.obj [.int .i64 n]) [.agg b.row,.int .i64 d] (.int .i64 (b.chk d n).2) (some (.obj [.int .i64 (b.chk d n).1])):=by
 induction b using Br.ind with
 | h nm t els ks ih=>
  rintro ⟨t1,t2,t3,t4,t5⟩ d n hn0 hn hd0 hd
  have h1:=isName_sem nm t1
  have h2:=isZero_sem t (els.map elR)
  have h3:=checkSegs_sem t els t2 t3
  have hll:(ks.map Br.row).length=ks.length:=List.length_map _
  have hel:(els.map elR).length=els.length:=List.length_map _
  rw [hel] at h2
  rw [bchk_mk,Br.row_mk]
  by_cases hnm:nm = []
  ·subst hnm
   have hp:pathMany [] n=n+1:=if_pos rfl
   rw [hp]
   generalize segErr t els=se at h3 ⊢
   generalize hr:(if 2000 < n+1∨6 < d then (n+1,(2:Int)) else if ([]:Str) ≠ []∧isNameB []=false then (n+1,5) else if ([]:Str) = []∧0 < ks.length then (n+1,3) else if ([]:Str) ≠ []∧(¬ (t = []∧els.length=0)∨ks.length=0∨headNamed ks=true) then (n+1,3) else if ([]:Str) = [] then (n+1,se) else Br.chks (d+1) (n+1) ks)=r
   refine semO_intro (M:=fun t=>mem t [0,1000051,1000052,1000096]) hT hM Tryz.func96 inferInstance rfl rfl rfl rfl rfl rfl rfl rfl rfl ?_
   repeat' (
    (conv=>whnf)
    first
     | ((try ((with_reducible first|apply NumE.go|apply IdxE.go|apply TextE.go|apply LookE.go|apply CallE.go);(conv=>whnf)));(with_reducible apply SideD.mk);(focus ((first|(intro hc;have hc0:=hc;(try simp only [SPLT] at hc);(try refine And.intro (by first|exact hc0|exact ⟨hc0,hc0⟩|exact ⟨hc0,hc0,hc0⟩) ?_))|skip);first|(exact show 0≤_∧_=some [D.str [],D.str [],D.sl 0 1 [],D.sl 0 4 []] from absurd hc0 (by simp))|((try apply givesl);(focus (first|((apply gives_go (h3));(focus (exact DLes.au));(focus exact rfl);(all_goals (exact pre)))|((first|apply gives_go (isName_sem _ _)|apply gives_go (isZero_sem _ _)|apply gives_go (checkSegs_sem _ _ _ _));(focus (exact DLes.au));(focus exact rfl);(all_goals (exact pre)))));(all_goals exact rfl))|exact sideG)))
     | ((with_reducible apply CallO.go);(conv=>whnf);(with_reducible apply SideD.mk);(focus (first|((apply giveso_go (branchL_sem _ _ _ _ _ _ _ _ _));(focus (first|exact rfl|(simp;done)));(focus (exact DLes.au));(focus exact rfl);(all_goals (exact pre))))))
     | ((with_reducible first|apply DrawR.go0|apply KerB.mk);(focus kernel_rfl))
     | (with_reducible first|apply ends_ret|apply ends_norm|apply Halt'.mk)
     | ((with_reducible apply CondD.mk)<;>intro hb<;>(try simp only [SPLT] at hb)<;>(try first|exact noB)))
   all_goals (try exact (false:Bool))
   ·rw [if_pos hb] at hr
    subst hr
    repeat' ((conv=>whnf);first|exact endR|(with_reducible first|apply And.intro|apply endsO_ret|apply endsO_norm|apply DLes.cons))
    all_goals (conv=>whnf)
   ·rw [if_neg (by omega),if_neg (by simp),if_pos ⟨rfl,by omega⟩] at hr
    subst hr
    repeat' ((conv=>whnf);first|exact endR|(with_reducible first|apply And.intro|apply endsO_ret|apply endsO_norm|apply DLes.cons))
    all_goals (conv=>whnf)
   ·rename_i g1 g2 g3 g4 g5
    rw [if_neg (by omega),if_neg (by simp),if_neg (fun h=>by have:=h.2;rcases g4 with g|g;exact g trivial;omega),if_neg (by simp),if_pos rfl] at hr
    subst hr
    repeat' ((conv=>whnf);first|exact endR|(with_reducible first|apply And.intro|apply endsO_ret|apply endsO_norm|apply DLes.cons))
    all_goals (conv=>whnf)
  ·have hp:pathMany nm n=n:=if_neg hnm
   rw [hp]
   obtain ⟨y,hy⟩:∃ y:Br,0 < ks.length→ks[0]?=some y:=⟨ks[0]?.getD (.mk [] [] [] []),fun h=>by rw [List.getElem?_eq_getElem h];rfl⟩
   have h4:d≤6→SemO Tryz.prog 52 (.obj [.int .i64 n]) [.sl 0 4 (ks.map Br.row),.int .i64 (d+1)] (.int .i64 (Br.chks (d+1) n ks).2) (some (.obj [.int .i64 (Br.chks (d+1) n ks).1])):=fun h=>
    branchL_sem ks (d+1) n (by omega) (by omega) hn0 hn t5 fun x hx m m0 m1=>ih x hx (t4 x hx) (d+1) m m0 m1 (by omega) (by omega)
   generalize isNameB nm=nb at h1 ⊢
   generalize Br.chks (d+1) n ks=ck at h4 ⊢
   generalize hr:(if 2000 < n∨6 < d then (n,(2:Int)) else if nm ≠ []∧nb=false then (n,5) else if nm = []∧0 < ks.length then (n,3) else if nm ≠ []∧(¬ (t = []∧els.length=0)∨ks.length=0∨headNamed ks=true) then (n,3) else if nm = [] then (n,segErr t els) else ck)=r
   obtain ⟨yn,yt,ye,yk⟩:=y
   have hnh:ks.length ≠ 0→headNamed ks=(yn != []):=fun h=>by
    cases ks with
    | nil=>exact absurd rfl h
    | cons z l=>
     have hz:=hy (by simp)
     simp at hz
     subst hz
     rfl
   refine semO_intro (M:=fun t=>mem t [0,1000051,1000052,1000096]) hT hM Tryz.func96 inferInstance rfl rfl rfl rfl rfl rfl rfl rfl rfl ?_
   repeat' (
    (conv=>whnf)
    first
     | ((try ((with_reducible first|apply NumE.go|apply IdxE.go|apply TextE.go|apply LookE.go|apply CallE.go);(conv=>whnf)));(with_reducible apply SideD.mk);(focus ((first|(intro hc;have hc0:=hc;(try simp only [SPLT] at hc);(try refine And.intro (by first|exact hc0|exact ⟨hc0,hc0⟩|exact ⟨hc0,hc0,hc0⟩) ?_))|skip);first|(exact idx_br (hy (by omega)) rfl)|((try apply givesl);(focus (first|((apply gives_go (h1));(focus (exact DLes.au));(focus exact rfl);(all_goals (exact pre)))|((apply gives_go (h2));(focus (exact DLes.au));(focus exact rfl);(all_goals (exact pre)))|((first|apply gives_go (isName_sem _ _)|apply gives_go (isZero_sem _ _)|apply gives_go (checkSegs_sem _ _ _ _));(focus (exact DLes.au));(focus exact rfl);(all_goals (exact pre)))));(all_goals exact rfl))|exact sideG)))
     | ((with_reducible apply CallO.go);(conv=>whnf);(with_reducible apply SideD.mk);(focus (first|((apply giveso_go (h4 (by omega)));(focus (first|exact rfl|(simp;done)));(focus (exact DLes.au));(focus exact rfl);(all_goals (exact pre))))))
     | ((with_reducible first|apply DrawR.go0|apply KerB.mk);(focus kernel_rfl))
     | (with_reducible first|apply ends_ret|apply ends_norm|apply Halt'.mk)
     | ((with_reducible apply CondD.mk)<;>intro hb<;>(try simp only [SPLT] at hb)<;>(try first|exact noB)))
   all_goals (try exact (false:Bool))
   ·rw [if_pos hb] at hr
    subst hr
    repeat' ((conv=>whnf);first|exact endR|(with_reducible first|apply And.intro|apply endsO_ret|apply endsO_norm|apply DLes.cons))
    all_goals (conv=>whnf)
   ·rw [if_neg (by omega),if_pos hb] at hr
    subst hr
    repeat' ((conv=>whnf);first|exact endR|(with_reducible first|apply And.intro|apply endsO_ret|apply endsO_norm|apply DLes.cons))
    all_goals (conv=>whnf)
   ·exact absurd hb.1 hnm
   ·rename_i g1 g2 g3 g4
    have g3:nb=true:=g3.resolve_left hnm
    have hq:¬ (t = []∧els.length=0)∨ks.length=0∨headNamed ks=true:=by
     rcases hb.2 with ((h|h)|h)|h
     ·exact .inl fun e=>h e.1
     ·exact .inl fun e=>h (by omega)
     ·exact .inr (.inl (by omega))
     ·by_cases hk:ks.length=0
      ·exact .inr (.inl hk)
      ·exact .inr (.inr (by rw [hnh hk];simpa using h))
    rw [if_neg (by omega),if_neg (by simp [g3]),if_neg (fun h=>hnm h.1),if_pos ⟨hnm,hq⟩] at hr
    subst hr
    repeat' ((conv=>whnf);first|exact endR|(with_reducible first|apply And.intro|apply endsO_ret|apply endsO_norm|apply DLes.cons))
    all_goals (conv=>whnf)
   ·rename_i g1 g2 g3 g4 g5
    have g3:nb=true:=g3.resolve_left hnm
    obtain ⟨⟨⟨q1,q2⟩,q3⟩,q4⟩:=g5.resolve_left hnm
    have hq:¬ (nm ≠ []∧(¬ (t = []∧els.length=0)∨ks.length=0∨headNamed ks=true)):=by
     rintro ⟨_,h|h|h⟩
     ·exact h ⟨q1,by omega⟩
     ·omega
     ·rw [hnh (by omega),q4] at h
      cases h
    rw [if_neg (by omega),if_neg (by simp [g3]),if_neg (fun h=>hnm h.1),if_neg hq,if_neg hnm] at hr
    subst hr
    repeat' ((conv=>whnf);first|exact endR|(with_reducible first|apply And.intro|apply endsO_ret|apply endsO_norm|apply DLes.cons))
    all_goals (conv=>whnf)
theorem branchO_sem (b:Br) (hb:b.Txt) (d n:Int) (h0:0≤n) (h1:n≤2000) (h2:0≤d) (h3:d≤1000):SemO Tryz.prog 96 (.obj [.int .i64 n]) [.agg b.row,.int .i64 d] (.int .i64 (b.chk d n).2) (some (.obj [.int .i64 (b.chk d n).1])):=branch_sem b hb d n h0 h1 h2 h3
theorem checkTree_sem (l:List Br) (hl:l.length≤9223372036854775807) (ht:∀ b ∈ l,b.Txt):Sem Tryz.prog 28 [.sl 0 4 (l.map Br.row)] (.int .i64 (treeErr l)):=by
 have h:=branchL_sem l 0 0 (by omega) (by omega) (by omega) (by omega) hl fun x hx m h0 h1=>branch_sem x (ht x hx) 0 m h0 h1 (by omega) (by omega)
 unfold treeErr
 generalize Br.chks 0 0 l=y at h ⊢
 obtain ⟨m,e⟩:=y
 dsimp only at h ⊢
 refine sem_intro (M:=fun t=>mem t [4,1000051,1000052,1000096]) hT hM Tryz.func28 inferInstance rfl rfl rfl rfl rfl rfl ?_
 repeat' (
  (conv=>whnf)
  first
   | ((try ((with_reducible first|apply NumE.go|apply IdxE.go|apply TextE.go|apply LookE.go|apply CallE.go);(conv=>whnf)));(with_reducible apply SideD.mk);(focus (first|exact side)))
   | ((with_reducible apply CallO.go);(conv=>whnf);(with_reducible apply SideD.mk);(focus (first|((apply giveso_go (h));(focus (first|exact rfl|(simp;done)));(focus (exact DLes.au));(focus exact rfl);(all_goals (exact pre))))))
   | ((with_reducible first|apply DrawR.go0|apply KerB.mk);(focus kernel_rfl))
   | (with_reducible first|apply ends_ret|apply ends_norm|apply Halt'.mk)
   | ((with_reducible apply CondD.mk)<;>intro hb<;>(try simp only [SPLT] at hb)<;>(try first|exact noB)))
 all_goals (try exact (false:Bool))
 repeat' ((conv=>whnf);first|exact endR|(with_reducible first|apply And.intro|apply endsO_ret|apply endsO_norm|apply DLes.cons))
 all_goals (conv=>whnf)
end Go.Proofs.YtfolfppcadjccaaGreatDoor
namespace Go.Proofs.YtfolfppcadjccaaGreatDoor
set_option linter.unusedSimpArgs false
set_option linter.unusedVariables false
open Go.RowKit
set_option maxRecDepth 100000
set_option maxHeartbeats 4000000
def klR (l:List Br):List D := [.sl 0 4 (l.map Br.row)]
mutual
/-- How many branches there are. -/
def Br.size:Br→Nat
 | .mk _ _ _ ks=>Br.sizes ks+1
def Br.sizes:List Br→Nat
 | []=>0
 | b::l=>b.size+Br.sizes l
end
theorem bsize_mk (n t:Str) (els:List El) (ks:List Br):(Br.mk n t els ks).size=Br.sizes ks+1:=by rw [Br.size]
theorem bsizes_nil:Br.sizes []=0:=by rw [Br.sizes]
theorem bsizes_cons (b:Br) (l:List Br):Br.sizes (b::l)=b.size+Br.sizes l:=by rw [Br.sizes]
attribute [irreducible] Br.size Br.sizes
theorem blen_sizes:∀ l:List Br,l.length≤Br.sizes l
 | []=>Nat.zero_le _
 | ⟨n,t,els,ks⟩::l=>by rw [bsizes_cons,bsize_mk,List.length_cons];have:=blen_sizes l;omega
/-- A right tree has not many branches. -/
theorem right_sizes {d:Int}:∀ (l:List Br),(∀ b ∈ l,∀ m,(b.chk d m).2=0→(b.size:Int)≤((b.chk d m).1 - m) * (8 - d)∧m+1≤(b.chk d m).1)→∀ m,(Br.chks d m l).2=0→(Br.sizes l:Int)≤((Br.chks d m l).1 - m) * (8 - d)∧m+l.length≤(Br.chks d m l).1
 | [],_,m,_=>by rw [bchks_nil,bsizes_nil];simp
 | b::l,hb,m,h=>by
  rw [bchks_cons] at h ⊢
  by_cases he:(b.chk d m).2=0
  ·rw [if_neg (by simp [he])] at h ⊢
   obtain ⟨h1,h2⟩:=hb b (by simp) m he
   obtain ⟨h3,h4⟩:=right_sizes l (fun x hx=>hb x (by simp [hx])) _ h
   rw [bsizes_cons,List.length_cons]
   refine ⟨?_,by omega⟩
   have e:((Br.chks d (b.chk d m).1 l).1 - m) * (8 - d)=((Br.chks d (b.chk d m).1 l).1 - (b.chk d m).1) * (8 - d)+((b.chk d m).1 - m) * (8 - d):=by
    rw [← Int.add_mul]
    congr 1
    omega
   rw [e]
   omega
  ·rw [if_pos he] at h
   exact absurd h he
theorem right_size (b:Br):∀ d m:Int,(b.chk d m).2=0→(b.size:Int)≤((b.chk d m).1 - m) * (8 - d)∧m+1≤(b.chk d m).1:=by
 induction b using Br.ind with
 | h n t els ks ih=>
  intro d m h
  rw [bsize_mk]
  rw [bchk_mk] at h ⊢
  split at h
  ·cases h
  ·rename_i h1
   rw [if_neg h1]
   split at h
   ·cases h
   ·rename_i h2
    rw [if_neg h2]
    split at h
    ·cases h
    ·rename_i h3
     rw [if_neg h3]
     split at h
     ·cases h
     ·rename_i h4
      rw [if_neg h4]
      split at h
      ·rename_i h5
       rw [if_pos h5]
       have hk:ks = []:=List.length_eq_zero_iff.1 (by simp only [h5,true_and] at h3;omega)
       have hp:pathMany n m=m+1:=by unfold pathMany;rw [if_pos h5]
       rw [hp,hk,bsizes_nil]
       dsimp only
       rw [show m+1 - m=1 by omega,Int.one_mul]
       omega
      ·rename_i h5
       rw [if_neg h5]
       have hp:pathMany n m=m:=by unfold pathMany;rw [if_neg h5]
       rw [hp] at h ⊢
       obtain ⟨g1,g2⟩:=right_sizes (d:=d+1) ks (fun b hb m hm=>ih b hb (d+1) m hm) m h
       have hk:ks.length ≠ 0:=fun e=>h4 ⟨h5,.inr (.inl e)⟩
       refine ⟨?_,by omega⟩
       generalize (Br.chks (d+1) m ks).1=c at g1 g2 ⊢
       have e:(c - m) * (8 - d)=(c - m) * (8 - (d+1))+(c - m):=by
        rw [show 8 - d=(8 - (d+1))+1 by omega,Int.mul_add,Int.mul_one]
       rw [e]
       omega
theorem tree_sizes {l:List Br} (h:treeErr l=0):Br.sizes l≤16000:=by
 obtain ⟨h1,_⟩:=right_sizes (d:=0) l (fun b _ m hm=>right_size b 0 m hm) 0 h
 obtain ⟨_,h2⟩:=bchks_bd (d:=0) l (fun c _ n hn=>bchk_bd c 0 n hn) 0 (by omega)
 have h2:=h2 h
 omega
/-- The lists of branches that a name leads to. -/
def filtL (n:Str) (l:List Br):List (List Br):=(l.filter fun b=>b.name == n).map Br.kids
def stepL (n:Str) (ls:List (List Br)):List (List Br):=ls.flatMap (filtL n)
theorem filtL_at {n:Str} {l:List Br} {m:Nat} {b:Br} (h:l[m]?=some b):filtL n (l.drop m)=if b.name=n then b.kids::filtL n (l.drop (m+1)) else filtL n (l.drop (m+1)):=by
 unfold filtL
 rw [List.drop_eq_getElem_cons (List.getElem?_eq_some_iff.1 h).1,(List.getElem?_eq_some_iff.1 h).2,List.filter_cons]
 by_cases e:b.name=n
 ·rw [if_pos (by simpa using e),if_pos e];rfl
 ·rw [if_neg (by simpa using e),if_neg e]
theorem filtL_yes {n n1 t:Str} {els:List El} {ks:List Br} {l:List Br} {m:Nat} (h:l[m]?=some (.mk n1 t els ks)) (e:n1=n):filtL n (l.drop m)=ks::filtL n (l.drop (m+1)):=(filtL_at h).trans (if_pos e)
theorem filtL_no {n n1 t:Str} {els:List El} {ks:List Br} {l:List Br} {m:Nat} (h:l[m]?=some (.mk n1 t els ks)) (e:¬ n1=n):filtL n (l.drop m)=filtL n (l.drop (m+1)):=(filtL_at h).trans (if_neg e)
theorem stepL_at {n:Str} {ls:List (List Br)} {k:Nat} {l:List Br} (h:ls[k]?=some l):stepL n (ls.drop k)=filtL n l++stepL n (ls.drop (k+1)):=by
 unfold stepL
 rw [List.drop_eq_getElem_cons (List.getElem?_eq_some_iff.1 h).1,(List.getElem?_eq_some_iff.1 h).2,List.flatMap_cons]
def lszs:List (List Br)→Nat
 | []=>0
 | l::ls=>1+Br.sizes l+lszs ls
theorem lszs_app:∀ a b:List (List Br),lszs (a++b)=lszs a+lszs b
 | [],b=>by simp [lszs]
 | l::a,b=>by rw [List.cons_append,lszs,lszs,lszs_app a b];omega
theorem lszs_len:∀ ls:List (List Br),ls.length≤lszs ls
 | []=>Nat.le_refl _
 | l::ls=>by rw [lszs,List.length_cons];have:=lszs_len ls;omega
theorem lszs_mem:∀ {ls:List (List Br)} {l:List Br},l ∈ ls→Br.sizes l≤lszs ls
 | m::ls,l,h=>by
  rw [lszs]
  rcases List.mem_cons.1 h with rfl|h
  ·omega
  ·have:=lszs_mem h;omega
theorem filtL_sz (n:Str):∀ l:List Br,lszs (filtL n l)≤Br.sizes l
 | []=>by simp [filtL,lszs]
 | ⟨n1,t,els,ks⟩::l=>by
  have ih:=filtL_sz n l
  have hat:=filtL_at (n:=n) (l:=⟨n1,t,els,ks⟩::l) (m:=0) rfl
  rw [List.drop_zero] at hat
  rw [hat,bsizes_cons,bsize_mk]
  show lszs (if n1=n then ks::filtL n l else filtL n l)≤_
  split
  ·rw [lszs];omega
  ·omega
theorem stepL_sz (n:Str):∀ ls:List (List Br),lszs (stepL n ls)≤lszs ls
 | []=>Nat.le_refl _
 | l::ls=>by
  have ih:=stepL_sz n ls
  have h:=filtL_sz n l
  rw [show stepL n (l::ls)=filtL n l++stepL n ls from rfl,lszs_app,lszs]
  omega
theorem insideL_step (n:Str) (ns:List Str) (ls:List (List Br)):insideL (n::ns) ls=insideL ns (stepL n ls):=rfl
theorem idx_kl {ls:List (List Br)} {i:Int} {j:Nat} {l:List Br} (h:ls[j]?=some l) (hi:i=j):0≤i∧(ls.map klR)[i.toNat]?=some [.sl 0 4 (l.map Br.row)]:=by
 subst hi
 exact ⟨by omega,by rw [Int.toNat_natCast,List.getElem?_map,h];rfl⟩
theorem kidsOf_sem (tree:List Br) (ns:List Str) (hl:ns.length≤2000) (hs:Br.sizes tree≤100000):Sem Tryz.prog 80 [.sl 0 4 (tree.map Br.row),.sl 0 1 (ns.map fun s => [.str s])] (.sl 0 1 ((inside1 ns tree).map klR)):=by
 rw [← insideL_one]
 have hnl:(ns.map fun s => [D.str s]).length=ns.length:=List.length_map _
 generalize hR:insideL ns [tree]=R
 refine sem_intro (M:=fun t=>mem t [1000051,1000052,1000096]) hT hM Tryz.func80 inferInstance rfl rfl rfl rfl rfl rfl ?_
 repeat' (
  (conv=>whnf)
  first
   | ((try ((with_reducible first|apply NumE.go|apply IdxE.go|apply TextE.go|apply LookE.go|apply CallE.go);(conv=>whnf)));(with_reducible apply SideD.mk);(focus (first|exact side)))
   | ((with_reducible first|apply DrawR.go0|apply KerB.mk);(focus kernel_rfl))
   | (with_reducible first|apply ends_ret|apply ends_norm|apply Halt'.mk)
   | ((with_reducible apply CondD.mk)<;>intro hb<;>(try simp only [SPLT] at hb)<;>(try first|exact noB)))
 all_goals (try exact (false:Bool))
 refine ht_down [5] ?_
 conv=>whnf
 refine loop_go (M:=fun t=>mem t [1000051,1000052,1000096]) hT hM (fun x:Nat × List (List Br) => [(17,.int .i64 x.1),(5,.sl 1 1 (x.2.map klR))]) (fun x=>x.1≤ns.length∧lszs x.2≤100001∧insideL (ns.drop x.1) x.2=R) (fun x=>ns.length - x.1) ((0,[tree])) ?_ ?_ ?_
 ·(conv=>whnf)
  refine ⟨?_,by rfl⟩
  repeat' ((conv=>whnf);first|exact endF|exact endF2|with_reducible apply DLes.cons)
 ·exact ⟨Nat.zero_le _,by simp [lszs];omega,hR⟩
 ·rintro ⟨i,ls⟩ ⟨hi,hsz,hv⟩
  dsimp only at hi hsz hv ⊢
  have hlsl:(ls.map klR).length=ls.length:=List.length_map _
  have hlsz:=lszs_len ls
  cases hx:ns[i]? with
  | none=>
   have hm:=List.getElem?_eq_none_iff.1 hx
   rw [List.drop_of_length_le hm] at hv
   have hv:ls=R:=hv
   subst hv
   repeat' (
    (conv=>whnf)
    first
     | ((try ((with_reducible first|apply NumE.go|apply IdxE.go|apply TextE.go|apply LookE.go|apply CallE.go);(conv=>whnf)));(with_reducible apply SideD.mk);(focus (first|exact side)))
     | ((with_reducible first|apply DrawR.go0|apply KerB.mk);(focus kernel_rfl))
     | (with_reducible first|apply ends_ret|apply ends_norm|apply Halt'.mk)
     | ((with_reducible apply CondD.mk)<;>intro hb<;>(try simp only [SPLT] at hb)<;>(try first|exact noB)))
   all_goals (try exact (false:Bool))
   repeat' ((conv=>whnf);first|exact endR|(with_reducible first|apply And.intro|apply endsO_ret|apply endsO_norm|apply DLes.cons))
   all_goals (conv=>whnf)
  | some n=>
   have hlt:=(List.getElem?_eq_some_iff.1 hx).1
   rw [List.drop_eq_getElem_cons hlt,(List.getElem?_eq_some_iff.1 hx).2,insideL_step] at hv
   have hst:=stepL_sz n ls
   generalize hR2:stepL n ls=R2 at hv hst
   have hR2l:=lszs_len R2
   repeat' (
    (conv=>whnf)
    first
     | ((try ((with_reducible first|apply NumE.go|apply IdxE.go|apply TextE.go|apply LookE.go|apply CallE.go);(conv=>whnf)));(with_reducible apply SideD.mk);(focus (first|(exact idx_eq (f:=fun s => [D.str s]) hx rfl)|exact side)))
     | ((with_reducible first|apply DrawR.go0|apply KerB.mk);(focus kernel_rfl))
     | (with_reducible first|apply ends_ret|apply ends_norm|apply Halt'.mk)
     | ((with_reducible apply CondD.mk)<;>intro hb<;>(try simp only [SPLT] at hb)<;>(try first|exact noB)))
   all_goals (try exact (false:Bool))
   refine ht_down [5] ?_
   conv=>whnf
   refine loop_go (M:=fun t=>mem t [1000051,1000052,1000096]) hT hM (fun x:Nat × List (List Br) => [(23,.int .i64 x.1),(8,.sl 1 1 (x.2.map klR))]) (fun x=>x.1≤ls.length∧x.2++stepL n (ls.drop x.1)=R2) (fun x=>ls.length - x.1) ((0,[])) ?_ ?_ ?_
   ·(conv=>whnf)
    refine ⟨?_,by rfl⟩
    repeat' ((conv=>whnf);first|exact endF|(exact dle_nil rfl)|exact endF2|with_reducible apply DLes.cons)
   ·exact ⟨Nat.zero_le _,by simpa using hR2⟩
   ·rintro ⟨k,acc⟩ ⟨hk,hacc⟩
    dsimp only at hk hacc ⊢
    cases hy:ls[k]? with
    | none=>
     have hm:=List.getElem?_eq_none_iff.1 hy
     rw [List.drop_of_length_le hm] at hacc
     have hacc:acc=R2:=by simpa [stepL] using hacc
     subst hacc
     repeat' (
      (conv=>whnf)
      first
       | ((try ((with_reducible first|apply NumE.go|apply IdxE.go|apply TextE.go|apply LookE.go|apply CallE.go);(conv=>whnf)));(with_reducible apply SideD.mk);(focus (first|exact side)))
       | ((with_reducible first|apply DrawR.go0|apply KerB.mk);(focus kernel_rfl))
       | (with_reducible first|apply ends_ret|apply ends_norm|apply Halt'.mk)
       | ((with_reducible apply CondD.mk)<;>intro hb<;>(try simp only [SPLT] at hb)<;>(try first|exact noB)))
     all_goals (try exact (false:Bool))
     refine ⟨(i+1,acc),⟨by dsimp only;omega,by dsimp only;omega,hv⟩,by dsimp only;omega,?_⟩
     (conv=>whnf)
     refine ⟨?_,by rfl⟩
     repeat' ((conv=>whnf);first|exact endF|exact endF2|with_reducible apply DLes.cons)
    | some l=>
     have hlk:=(List.getElem?_eq_some_iff.1 hy).1
     rw [stepL_at hy] at hacc
     have hll:(l.map Br.row).length=l.length:=List.length_map _
     have hlsz2:=blen_sizes l
     have hlm:=lszs_mem (List.mem_of_getElem? hy)
     repeat' (
      (conv=>whnf)
      first
       | ((try ((with_reducible first|apply NumE.go|apply IdxE.go|apply TextE.go|apply LookE.go|apply CallE.go);(conv=>whnf)));(with_reducible apply SideD.mk);(focus (first|(exact idx_kl hy rfl)|exact side)))
       | ((with_reducible first|apply DrawR.go0|apply KerB.mk);(focus kernel_rfl))
       | (with_reducible first|apply ends_ret|apply ends_norm|apply Halt'.mk)
       | ((with_reducible apply CondD.mk)<;>intro hb<;>(try simp only [SPLT] at hb)<;>(try first|exact noB)))
     all_goals (try exact (false:Bool))
     refine ht_down [5] ?_
     conv=>whnf
     refine loop_go (M:=fun t=>mem t [1000051,1000052,1000096]) hT hM (fun x:Nat × List (List Br) => [(29,.int .i64 x.1),(8,.sl 1 1 (x.2.map klR))]) (fun x=>x.1≤l.length∧x.2++(filtL n (l.drop x.1)++stepL n (ls.drop (k+1)))=R2) (fun x=>l.length - x.1) ((0,acc)) ?_ ?_ ?_
     ·(conv=>whnf)
      refine ⟨?_,by rfl⟩
      repeat' ((conv=>whnf);first|exact endF|exact endF2|with_reducible apply DLes.cons)
     ·exact ⟨Nat.zero_le _,by simpa using hacc⟩
     ·rintro ⟨m,ac⟩ ⟨hmm,hac⟩
      dsimp only at hmm hac ⊢
      have hacl:ac.length≤1000000:=by
       have:=congrArg List.length hac
       rw [List.length_append] at this
       omega
      cases hz:l[m]? with
      | none=>
       have hm2:=List.getElem?_eq_none_iff.1 hz
       rw [List.drop_of_length_le hm2] at hac
       repeat' (
        (conv=>whnf)
        first
         | ((try ((with_reducible first|apply NumE.go|apply IdxE.go|apply TextE.go|apply LookE.go|apply CallE.go);(conv=>whnf)));(with_reducible apply SideD.mk);(focus (first|exact side)))
         | ((with_reducible first|apply DrawR.go0|apply KerB.mk);(focus kernel_rfl))
         | (with_reducible first|apply ends_ret|apply ends_norm|apply Halt'.mk)
         | ((with_reducible apply CondD.mk)<;>intro hb<;>(try simp only [SPLT] at hb)<;>(try first|exact noB)))
       all_goals (try exact (false:Bool))
       refine ⟨(k+1,ac),⟨by dsimp only;omega,by simpa [filtL] using hac⟩,by dsimp only;omega,?_⟩
       (conv=>whnf)
       refine ⟨?_,by rfl⟩
       repeat' ((conv=>whnf);first|exact endF|exact endF2|with_reducible apply DLes.cons)
      | some b=>
       have hlm2:=(List.getElem?_eq_some_iff.1 hz).1
       obtain ⟨n1,t1,els1,ks1⟩:=b
       repeat' (
        (conv=>whnf)
        first
         | ((try ((with_reducible first|apply NumE.go|apply IdxE.go|apply TextE.go|apply LookE.go|apply CallE.go);(conv=>whnf)));(with_reducible apply SideD.mk);(focus (first|(exact idx_br hz rfl)|exact side)))
         | ((with_reducible first|apply DrawR.go0|apply KerB.mk);(focus kernel_rfl))
         | (with_reducible first|apply ends_ret|apply ends_norm|apply Halt'.mk)
         | ((with_reducible apply CondD.mk)<;>intro hb<;>(try simp only [SPLT] at hb)<;>(try first|exact noB)))
       all_goals (try exact (false:Bool))
       ·rw [filtL_yes hz hb] at hac
        refine ⟨(m+1,ac ++ [ks1]),⟨by dsimp only;omega,by rw [List.append_assoc];exact hac⟩,by dsimp only;omega,?_⟩
        (conv=>whnf)
        refine ⟨?_,by rfl⟩
        repeat' ((conv=>whnf);first|exact endF|(exact DLe.of_eq (congrArg (D.sl 1 1) (by rw [List.map_append];rfl)))|exact endF2|with_reducible apply DLes.cons)
       ·rw [filtL_no hz hb] at hac
        refine ⟨(m+1,ac),⟨by dsimp only;omega,hac⟩,by dsimp only;omega,?_⟩
        (conv=>whnf)
        refine ⟨?_,by rfl⟩
        repeat' ((conv=>whnf);first|exact endF|exact endF2|with_reducible apply DLes.cons)
end Go.Proofs.YtfolfppcadjccaaGreatDoor
namespace Go.Proofs.YtfolfppcadjccaaGreatDoor
set_option linter.unusedSimpArgs false
set_option linter.unusedVariables false
open Go.RowKit
set_option maxRecDepth 100000
/-- Conditions with as many parts as their kinds need. -/
inductive Cond.Fm:Cond→Prop where
 | mk {k:Int} {ks:List Cond} {p:Str} {vs:List Str} {lo hi:Int} (h3:k=3∨k=7∨k=8→∃ x,ks = [x]) (h12:k=1∨k=2→ks ≠ []) (hr:1≤k∧k≤9) (hk:∀ x ∈ ks,x.Fm):(Cond.mk k ks p vs lo hi).Fm
theorem own_fm {k:Int} {ks:List Cond} {p:Str} {vs:List Str} {lo hi:Int} (h:ownErr k ks.length p vs lo hi=0):(k=3∨k=7∨k=8→∃ x,ks = [x])∧(k=1∨k=2→ks ≠ [])∧1≤k∧k≤9:=by
 unfold ownErr at h
 split at h
 ·cases h
 ·rename_i hr
  split at h
  ·cases h
  ·rename_i hf
   have hf:formB k ks.length p vs.length lo hi=false:=by simpa using hf
   unfold formB at hf
   simp only [Bool.or_eq_false_iff] at hf
   have h5:=hf.2
   refine ⟨fun hk => ?_,fun hk e => ?_,by omega,by omega⟩
   ·have:ks.length=1:=by
     rcases hk with rfl|rfl|rfl<;>simp [usesOfB,overB] at h5<;>omega
    match ks,this with
    | [x],_=>exact ⟨x,rfl⟩
   ·subst e
    rcases hk with rfl|rfl<;>simp [usesOfB] at h5
theorem chks_fm {d:Int}:∀ (l:List Cond),(∀ c ∈ l,∀ n,(c.chk d n).2=0→c.Fm)→∀ n,(Cond.chks l d n).2=0→∀ c ∈ l,c.Fm
 | [],_,_,_=>by simp
 | c::l,hc,n,h=>by
  have hat:=chks_at (l:=c::l) (i:=0) (c:=c) rfl d n
  rw [List.drop_zero] at hat
  rw [hat] at h
  by_cases he:(c.chk d n).2=0
  ·rw [if_neg (by simp [he])] at h
   intro x hx
   rcases List.mem_cons.1 hx with rfl|hx
   ·exact hc _ (by simp) n he
   ·exact chks_fm l (fun y hy=>hc y (by simp [hy])) _ h x hx
  ·rw [if_pos he] at h
   exact absurd h he
theorem chk_fm (c:Cond):∀ d n:Int,(c.chk d n).2=0→c.Fm:=by
 induction c using Cond.ind with
 | h k ks p vs lo hi ih=>
  intro d n h
  rw [chk_mk] at h
  split at h
  ·cases h
  ·split at h
   ·rename_i he
    exact absurd h he
   ·rename_i he
    obtain ⟨o1,o2,o3⟩:=own_fm (by simpa using he)
    exact .mk o1 o2 o3 (chks_fm ks (fun c hc m hh=>ih c hc (d+1) m hh) (n+1) h)
theorem err_fm {c:Cond} (h:c.err=0):c.Fm:=chk_fm c 0 0 h
theorem hasC_iff {l:List Cond} {c:Cond}:hasC l c=true↔c ∈ l:=by
 unfold hasC
 rw [List.any_eq_true]
 constructor
 ·rintro ⟨x,hx,h⟩
  rw [← (Cond.same_iff x c).1 h]
  exact hx
 ·intro h
  exact ⟨c,h,same_refl c⟩
theorem addC_all (q:Cond→Bool) (acc:List Cond) (y:Cond):(addC acc y).all q=(acc.all q && q y):=by
 unfold addC
 split
 ·rename_i h
  have hm:=hasC_iff.1 h
  rw [Bool.eq_iff_iff,Bool.and_eq_true]
  constructor
  ·intro h;exact ⟨h,List.all_eq_true.1 h y hm⟩
  ·exact fun h=>h.1
 ·rw [List.all_append];simp
theorem foldl_all (q:Cond→Bool):∀ (l acc:List Cond),(l.foldl addC acc).all q=(acc.all q && l.all q)
 | [],acc=>by simp
 | y::l,acc=>by rw [List.foldl_cons,foldl_all q l,addC_all,List.all_cons,Bool.and_assoc]
theorem addC_any (q:Cond→Bool) (acc:List Cond) (y:Cond):(addC acc y).any q=(acc.any q || q y):=by
 unfold addC
 split
 ·rename_i h
  have hm:=hasC_iff.1 h
  rw [Bool.eq_iff_iff,Bool.or_eq_true]
  constructor
  ·exact fun h=>.inl h
  ·rintro (h|h)
   ·exact h
   ·exact List.any_eq_true.2 ⟨y,hm,h⟩
 ·rw [List.any_append];simp
theorem foldl_any (q:Cond→Bool):∀ (l acc:List Cond),(l.foldl addC acc).any q=(acc.any q || l.any q)
 | [],acc=>by simp
 | y::l,acc=>by rw [List.foldl_cons,foldl_any q l,addC_any,List.any_cons,Bool.or_assoc]
theorem flat_all (q:Cond→Bool):∀ (l acc:List Cond),(∀ x ∈ l,(innerC 1 x).all q=q x)→(flatC 1 l acc).all q=(acc.all q && l.all q)
 | [],acc,_=>by simp [flatC]
 | x::l,acc,h=>by rw [flatC,flat_all q l _ fun y hy=>h y (by simp [hy]),foldl_all,h x (by simp),List.all_cons,Bool.and_assoc]
theorem flat_any (q:Cond→Bool):∀ (l acc:List Cond),(∀ x ∈ l,(innerC 2 x).any q=q x)→(flatC 2 l acc).any q=(acc.any q || l.any q)
 | [],acc,_=>by simp [flatC]
 | x::l,acc,h=>by rw [flatC,flat_any q l _ fun y hy=>h y (by simp [hy]),foldl_any,h x (by simp),List.any_cons,Bool.or_assoc]
theorem inner_holds1 (t:List Br) (x:Cond):((innerC 1 x).all fun c=>c.holds t)=x.holds t:=by
 obtain ⟨k,ks,p,vs,lo,hi⟩:=x
 unfold innerC
 split
 ·rename_i e
  have e:k=1:=e
  rw [holds_mk,if_pos e,holdsA_all]
  rfl
 ·simp
theorem inner_holds2 (t:List Br) (x:Cond):((innerC 2 x).any fun c=>c.holds t)=x.holds t:=by
 obtain ⟨k,ks,p,vs,lo,hi⟩:=x
 unfold innerC
 split
 ·rename_i e
  have e:k=2:=e
  rw [holds_mk,if_neg (by omega),if_pos e,holdsO_any]
  rfl
 ·simp
theorem notC_holds (c:Cond) (t:List Br):(notC c).holds t = !c.holds t:=by
 rw [notC,holds_mk,if_neg (by decide),if_neg (by decide),if_pos rfl,holdsH_at rfl]
theorem both_holds (a:Cond) (t:List Br):(anyC [a,notC a]).holds t=true:=by
 rw [anyC,holds_mk,if_neg (by decide),if_pos rfl,holdsO_any,List.any_cons,List.any_cons,notC_holds]
 cases a.holds t<;>rfl
theorem contra_holds {F:List Cond} (h:contraC F=true) (t:List Br):(F.all fun c=>c.holds t)=false∧(F.any fun c=>c.holds t)=true:=by
 unfold contraC at h
 rw [List.any_eq_true] at h
 obtain ⟨x,hx,hn⟩:=h
 have hn:=hasC_iff.1 hn
 have e:=notC_holds x t
 cases hv:x.holds t with
 | true=>
  rw [hv] at e
  exact ⟨List.all_eq_false.2 ⟨notC x,hn,by rw [e];decide⟩,List.any_eq_true.2 ⟨x,hx,hv⟩⟩
 | false=>
  rw [hv] at e
  exact ⟨List.all_eq_false.2 ⟨x,hx,by rw [hv];decide⟩,List.any_eq_true.2 ⟨notC x,hn,e⟩⟩
theorem map_holdsA (t:List Br) (l:List Cond) (h:∀ x ∈ l,x.short.holds t=x.holds t):((l.map Cond.short).all fun c=>c.holds t)=l.all fun c=>c.holds t:=by
 rw [List.all_map]
 exact allE_congr l h
theorem map_holdsO (t:List Br) (l:List Cond) (h:∀ x ∈ l,x.short.holds t=x.holds t):((l.map Cond.short).any fun c=>c.holds t)=l.any fun c=>c.holds t:=by
 rw [List.any_map]
 exact anyE_congr l h
/-- A condition that is short. -/
inductive Cond.Sh:Cond→Prop where
 | mk {k:Int} {ks:List Cond} {p:Str} {vs:List Str} {lo hi:Int} (hk:∀ x ∈ ks,x.Sh) (h3:k=3→∃ x,ks = [x]∧x.kind ≠ 3)
  (h12:k=1∨k=2→2≤ks.length∧(∀ x ∈ ks,x.kind ≠ k)∧ks.Nodup∧(contraC ks=false∨(k=2∧p = []∧vs = []∧lo=0∧hi=0∧∃ a,isAtomB a.kind=true∧ks = [a,notC a]))):(Cond.mk k ks p vs lo hi).Sh
theorem addC_new {acc:List Cond} {y:Cond} (h:y ∉ acc):addC acc y=acc ++ [y]:=by
 unfold addC
 rw [if_neg fun e=>h (hasC_iff.1 e)]
theorem flat_self (k:Int):∀ (l acc:List Cond),(acc++l).Nodup→(∀ x ∈ l,x.kind ≠ k)→flatC k l acc=acc++l
 | [],acc,_,_=>by simp [flatC]
 | x::l,acc,hn,hk=>by
  have hx:x ∉ acc:=fun h=>by
   have:=(List.nodup_append.1 hn).2.2 x h x (by simp)
   exact this rfl
  have e:innerC k x = [x]:=by
   unfold innerC
   rw [if_neg (hk x (by simp))]
  rw [flatC,e,List.foldl_cons,List.foldl_nil,addC_new hx,flat_self k l (acc ++ [x]) (by rw [List.append_assoc];exact hn) fun y hy=>hk y (by simp [hy]),List.append_assoc]
  rfl
theorem atom_ats {a:Cond} (h:isAtomB a.kind=true) (out:List Cond):a.ats out=if hasC out a=true then out else out ++ [a]:=by
 obtain ⟨k,ks,p,vs,lo,hi⟩:=a
 rw [ats_mk]
 exact if_pos h
theorem not_ats (a:Cond) (out:List Cond):(notC a).ats out=a.ats out:=by
 rw [notC,ats_mk,if_neg (by decide),atss_cons,atss_nil]
theorem both_ats {a:Cond} (h:isAtomB a.kind=true):(Cond.mk 2 [a,notC a] [] [] 0 0).ats [] = [a]:=by
 have e:a.ats [] = [a]:=by rw [atom_ats h,if_neg (by simp [hasC])];rfl
 rw [ats_mk,if_neg (by decide),atss_cons,atss_cons,atss_nil,not_ats,e,atom_ats h,if_pos (hasC_iff.2 (by simp))]
theorem sh_short (c:Cond):c.Sh→c.short=c:=by
 induction c using Cond.ind with
 | h k ks p vs lo hi ih=>
  rintro ⟨hk,h3,h12⟩
  have hm:ks.map Cond.short=ks:=by
   conv=>rhs;rw [← List.map_id ks]
   exact List.map_congr_left fun x hx=>ih x hx (hk x hx)
  rw [short_mk,hm,endC]
  split
  ·rename_i hh
   obtain ⟨x,rfl,hx⟩:=h3 hh.1
   exact absurd hh.2 hx
  ·split
   ·rename_i hk12
    obtain ⟨g1,g2,g3,g4⟩:=h12 hk12
    have hf:=flat_self k ks [] (by simpa using g3) g2
    rw [severalC,severalE,hf,List.nil_append,if_neg (by omega)]
    by_cases hc:contraC ks=false
    ·rw [if_pos hc]
    ·rw [if_neg hc]
     rcases g4 with g4|⟨rfl,rfl,rfl,rfl,rfl,a,ha,rfl⟩
     ·exact absurd g4 hc
     ·rw [if_neg (by decide),both_ats ha]
      rfl
   ·rfl
theorem addC_sh {k:Int} {acc:List Cond} {y:Cond} (h:∀ x ∈ acc,x.Sh∧x.kind ≠ k) (hn:acc.Nodup) (hy:y.Sh∧y.kind ≠ k):(∀ x ∈ addC acc y,x.Sh∧x.kind ≠ k)∧(addC acc y).Nodup∧addC acc y ≠ []:=by
 unfold addC
 split
 ·rename_i hh
  refine ⟨h,hn,fun e => ?_⟩
  rw [e] at hh
  simp [hasC] at hh
 ·rename_i hh
  refine ⟨fun x hx => ?_,?_,by simp⟩
  ·rcases List.mem_append.1 hx with hx|hx
   ·exact h x hx
   ·obtain rfl:=List.mem_singleton.1 hx
    exact hy
  ·rw [List.nodup_append]
   refine ⟨hn,by simp,fun a ha b hb e => ?_⟩
   obtain rfl:=List.mem_singleton.1 hb
   subst e
   exact hh (hasC_iff.2 ha)
theorem foldl_sh {k:Int}:∀ (l acc:List Cond),(∀ x ∈ acc,x.Sh∧x.kind ≠ k)→acc.Nodup→(∀ x ∈ l,x.Sh∧x.kind ≠ k)→(∀ x ∈ l.foldl addC acc,x.Sh∧x.kind ≠ k)∧(l.foldl addC acc).Nodup∧(acc ≠ []∨l ≠ []→l.foldl addC acc ≠ [])
 | [],acc,h,hn,_=>⟨h,hn,fun h=>h.elim id fun h=>absurd rfl h⟩
 | y::l,acc,h,hn,hl=>by
  obtain ⟨h1,h2,h3⟩:=addC_sh h hn (hl y (by simp))
  obtain ⟨g1,g2,g3⟩:=foldl_sh l (addC acc y) h1 h2 fun x hx=>hl x (by simp [hx])
  rw [List.foldl_cons]
  exact ⟨g1,g2,fun _=>g3 (.inl h3)⟩
theorem inner_sh {k:Int} (hk:k=1∨k=2) {x:Cond} (h:x.Sh):(∀ y ∈ innerC k x,y.Sh∧y.kind ≠ k)∧innerC k x ≠ []:=by
 obtain ⟨h1,h3,h12⟩:=h
 rename_i k' ks p vs lo hi
 unfold innerC
 split
 ·rename_i e
  have e:k'=k:=e
  subst e
  obtain ⟨g1,g2,_,_⟩:=h12 hk
  refine ⟨fun y hy=>⟨h1 y hy,g2 y hy⟩,fun e => ?_⟩
  have e:ks = []:=e
  rw [e] at g1
  simp at g1
 ·rename_i e
  refine ⟨fun y hy => ?_,by simp⟩
  obtain rfl:=List.mem_singleton.1 hy
  exact ⟨.mk h1 h3 h12,e⟩
theorem flat_sh {k:Int} (hk:k=1∨k=2):∀ (l acc:List Cond),(∀ x ∈ l,x.Sh)→(∀ x ∈ acc,x.Sh∧x.kind ≠ k)→acc.Nodup→(∀ x ∈ flatC k l acc,x.Sh∧x.kind ≠ k)∧(flatC k l acc).Nodup∧(acc ≠ []∨l ≠ []→flatC k l acc ≠ [])
 | [],acc,_,h,hn=>⟨h,hn,fun h=>h.elim id fun h=>absurd rfl h⟩
 | x::l,acc,hl,h,hn=>by
  obtain ⟨i1,i2⟩:=inner_sh hk (hl x (by simp))
  obtain ⟨f1,f2,f3⟩:=foldl_sh (innerC k x) acc h hn i1
  obtain ⟨g1,g2,g3⟩:=flat_sh hk l _ (fun y hy=>hl y (by simp [hy])) f1 f2
  rw [flatC]
  exact ⟨g1,g2,fun _=>g3 (.inl (f3 (.inr i2)))⟩
theorem atss_sh:∀ (l:List Cond),(∀ c ∈ l,∀ out,(∀ x ∈ out,x.Sh)→∀ x ∈ c.ats out,x.Sh)→∀ out,(∀ x ∈ out,x.Sh)→∀ x ∈ Cond.atss l out,x.Sh
 | [],_,out,h=>by rw [atss_nil];exact h
 | c::l,hc,out,h=>by
  rw [atss_cons]
  exact atss_sh l (fun x hx=>hc x (by simp [hx])) _ (hc c (by simp) out h)
theorem ats_sh (c:Cond):c.Sh→∀ out,(∀ x ∈ out,x.Sh)→∀ x ∈ c.ats out,x.Sh:=by
 induction c using Cond.ind with
 | h k ks p vs lo hi ih=>
  intro hc out ho
  have hc':=hc
  obtain ⟨hk,_,_⟩:=hc'
  rw [ats_mk]
  split
  ·split
   ·exact ho
   ·intro x hx
    rcases List.mem_append.1 hx with hx|hx
    ·exact ho x hx
    ·obtain rfl:=List.mem_singleton.1 hx
     exact hc
  ·exact atss_sh ks (fun c hc=>ih c hc (hk c hc)) out ho
theorem atss_ne {l:List Cond} (h:∃ c ∈ l,∀ out,c.ats out ≠ []):∀ out,Cond.atss l out ≠ []:=by
 induction l with
 | nil=>obtain ⟨c,hc,_⟩:=h;cases hc
 | cons x l ih=>
  intro out
  rw [atss_cons]
  obtain ⟨c,hc,hn⟩:=h
  rcases List.mem_cons.1 hc with rfl|hc
  ·intro e
   have:=(atss_len l (fun c _ o=>ats_len c o) (c.ats out)).1
   rw [e,List.length_nil] at this
   exact hn out (List.length_eq_zero_iff.1 (by omega))
  ·exact ih ⟨c,hc,hn⟩ _
theorem sh_ats (c:Cond):c.Sh→∀ out,c.ats out ≠ []:=by
 induction c using Cond.ind with
 | h k ks p vs lo hi ih=>
  rintro ⟨hk,h3,h12⟩ out
  rw [ats_mk]
  split
  ·split
   ·rename_i hh
    intro e
    rw [e] at hh
    simp [hasC] at hh
   ·simp
  ·rename_i ha
   have hne:ks ≠ []:=fun e=>by
    subst e
    rcases kinds ha with h|h|h
    ·have:=(h12 (.inl h)).1;simp at this
    ·have:=(h12 (.inr h)).1;simp at this
    ·obtain ⟨x,e,_⟩:=h3 h;cases e
   cases ks with
   | nil=>exact absurd rfl hne
   | cons x l=>exact atss_ne ⟨x,by simp,ih x (by simp) (hk x (by simp))⟩ out
theorem both_sh {a:Cond} (ha:isAtomB a.kind=true) (h:a.Sh):(anyC [a,notC a]).Sh:=by
 obtain ⟨a1,a2,a3⟩:=atomK.1 ha
 refine .mk (fun x hx => ?_) (fun h=>by cases h) fun _=>⟨by simp,fun x hx => ?_,?_,.inr ⟨rfl,rfl,rfl,rfl,rfl,a,ha,rfl⟩⟩
 ·simp only [List.mem_cons,List.not_mem_nil,or_false] at hx
  rcases hx with rfl|rfl
  ·exact h
  ·refine .mk (fun x hx => ?_) (fun _=>⟨a,rfl,a3⟩) fun h=>by rcases h with h|h<;>cases h
   obtain rfl:=List.mem_singleton.1 hx
   exact h
 ·simp only [List.mem_cons,List.not_mem_nil,or_false] at hx
  rcases hx with rfl|rfl
  ·exact a2
  ·show (3:Int) ≠ 2
   decide
 ·rw [List.nodup_cons]
  refine ⟨fun hm => ?_,by simp⟩
  have e:=List.mem_singleton.1 hm
  rw [e] at a3
  exact a3 rfl
theorem short_sh (c:Cond):c.Fm→c.short.Sh:=by
 induction c using Cond.ind with
 | h k ks p vs lo hi ih=>
  rintro ⟨h3,h12,hr,hk⟩
  have hs:∀ x ∈ ks.map Cond.short,x.Sh:=fun y hy=>by
   obtain ⟨x,hx,rfl⟩:=List.mem_map.1 hy
   exact ih x hx (hk x hx)
  rw [short_mk,endC]
  split
  ·rename_i hh
   obtain ⟨rfl,hh⟩:=hh
   obtain ⟨x,rfl⟩:=h3 (.inl rfl)
   have hx:=hs x.short (by simp)
   show (x.short.kids.headD noneC).Sh
   have hh:x.short.kind=3:=hh
   generalize x.short=y at hh hx
   obtain ⟨g1,g3,_⟩:=hx
   obtain ⟨z,e,_⟩:=g3 hh
   subst e
   exact g1 z (by simp)
  ·rename_i hn3
   split
   ·rename_i hk12
    obtain ⟨f1,f2,f3⟩:=flat_sh hk12 (ks.map Cond.short) [] hs (by simp) (by simp)
    have f3:=f3 (.inr (by simp;exact h12 hk12))
    rw [severalC,severalE]
    generalize flatC k (ks.map Cond.short) []=F at f1 f2 f3
    split
    ·exact (f1 _ (head_mem f3)).1
    ·rename_i hl
     have hlen:2≤F.length:=by
      have:=List.length_pos_iff.2 f3
      omega
     split
     ·rename_i hc
      exact .mk (fun x hx=>(f1 x hx).1) (fun h=>by omega) fun _=>⟨hlen,fun x hx=>(f1 x hx).2,f2,.inl hc⟩
     ·have hne:(Cond.mk k F p vs lo hi).ats [] ≠ []:=by
       rw [ats_mk,if_neg (by rcases hk12 with rfl|rfl<;>decide)]
       cases F with
       | nil=>exact absurd rfl f3
       | cons x l=>exact atss_ne ⟨x,by simp,sh_ats x (f1 x (by simp)).1⟩ []
      have haS:∀ x ∈ (Cond.mk k F p vs lo hi).ats [],x.Sh:=by
       rw [ats_mk,if_neg (by rcases hk12 with rfl|rfl<;>decide)]
       exact atss_sh F (fun c hc=>ats_sh c (f1 c hc).1) [] (by simp)
      have ha:=ats_atom (.mk k F p vs lo hi) [] (by simp) _ (head_mem hne)
      have hb:=both_sh ha (haS _ (head_mem hne))
      split
      ·refine .mk (fun x hx => ?_) (fun _=>⟨_,rfl,by show (2:Int) ≠ 3;decide⟩) fun h=>by rcases h with h|h<;>cases h
       obtain rfl:=List.mem_singleton.1 hx
       exact hb
      ·exact hb
   ·rename_i hk12
    refine .mk hs (fun h => ?_) fun h=>absurd h hk12
    obtain ⟨x,rfl⟩:=h3 (.inl h)
    exact ⟨x.short,rfl,fun e=>hn3 ⟨h,e⟩⟩
theorem short_holds (c:Cond):c.Fm→∀ t,c.short.holds t=c.holds t:=by
 induction c using Cond.ind with
 | h k ks p vs lo hi ih=>
  rintro ⟨h3,h12,hr,hk⟩ t
  have hs:∀ t,∀ x ∈ ks,x.short.holds t=x.holds t:=fun t x hx=>ih x hx (hk x hx) t
  have hH:∀ t,Cond.holdsH (ks.map Cond.short) t=Cond.holdsH ks t:=fun t=>by
   rw [holdsH_head,holdsH_head]
   cases ks with
   | nil=>rfl
   | cons x l=>exact hs t x (by simp)
  rw [short_mk,endC]
  split
  ·rename_i hh
   obtain ⟨rfl,hh⟩:=hh
   obtain ⟨x,rfl⟩:=h3 (.inl rfl)
   have hx:=hs t x (by simp)
   rw [holds_mk,if_neg (by decide),if_neg (by decide),if_pos rfl,holdsH_at rfl,← hx]
   show (x.short.kids.headD noneC).holds t=_
   have hh:x.short.kind=3:=hh
   have hsh:=short_sh x (hk x (by simp))
   generalize x.short=y at hh hsh
   obtain ⟨_,g3,_⟩:=hsh
   obtain ⟨z,e,_⟩:=g3 hh
   subst e
   rename_i k' p' vs' lo' hi' _ _ _
   have hh:k'=3:=hh
   subst hh
   rw [holds_mk,if_neg (by decide),if_neg (by decide),if_pos rfl,Bool.not_not,holdsH_at rfl]
   rfl
  ·split
   ·rename_i hk12
    rw [severalC,severalE]
    have hA:k=1→((flatC k (ks.map Cond.short) []).all fun c=>c.holds t)=(Cond.mk k ks p vs lo hi).holds t:=by
     rintro rfl
     rw [flat_all _ _ _ fun x _=>inner_holds1 t x,map_holdsA t ks (hs t),holds_mk,if_pos rfl,holdsA_all]
     rfl
    have hO:k=2→((flatC k (ks.map Cond.short) []).any fun c=>c.holds t)=(Cond.mk k ks p vs lo hi).holds t:=by
     rintro rfl
     rw [flat_any _ _ _ fun x _=>inner_holds2 t x,map_holdsO t ks (hs t),holds_mk,if_neg (by decide),if_pos rfl,holdsO_any]
     rfl
    generalize flatC k (ks.map Cond.short) []=F at hA hO
    generalize ((Cond.mk k F p vs lo hi).ats []).headD noneC=a
    split
    ·rename_i hl
     match F,hl with
     | [x],_=>
      show x.holds t=_
      rcases hk12 with h|h
      ·rw [← hA h];simp
      ·rw [← hO h];simp
    ·split
     ·rw [holds_mk,holdsA_all,holdsO_any]
      rcases hk12 with h|h
      ·rw [if_pos h,hA h]
      ·rw [if_neg (by omega),if_pos h,hO h]
     ·rename_i hc
      obtain ⟨c1,c2⟩:=contra_holds (by simpa using hc) t
      split
      ·rename_i h
       rw [notC_holds,both_holds,← hA h,c1]
       rfl
      ·rename_i h
       rw [both_holds,← hO (by omega),c2]
   ·rename_i hk12
    have e1:∀ ks':List Cond,(Cond.mk k ks' p vs lo hi).holds t=if k=3 then !Cond.holdsH ks' t else if k=7 then (kidsP p t).all fun l=>Cond.holdsH ks' l else if k=8 then (kidsP p t).any fun l=>Cond.holdsH ks' l else leafL k vs lo hi (textsP p t):=fun ks'=>by
     rw [holds_mk,if_neg (by omega),if_neg (by omega)]
    rw [e1,e1]
    split
    ·rw [hH]
    ·split
     ·exact allE_congr _ fun l _=>hH l
     ·split
      ·exact anyE_congr _ fun l _=>hH l
      ·rfl
theorem short_short {c:Cond} (h:c.Fm):c.short.short=c.short:=sh_short _ (short_sh c h)
end Go.Proofs.YtfolfppcadjccaaGreatDoor
namespace Go.Proofs.YtfolfppcadjccaaGreatDoor
set_option linter.unusedSimpArgs false
set_option linter.unusedVariables false
open Go.RowKit
set_option maxRecDepth 100000
set_option maxHeartbeats 4000000
theorem isAtom_sem (k:Int) (rows:List (List D)) (p:Str) (vs:List (List D)) (lo hi:Int):Sem Tryz.prog 138 [.agg [.int .i64 k,.sl 0 6 rows,.str p,.sl 0 1 vs,.int .i64 lo,.int .i64 hi]] (.bool (isAtomB k)):=by
 refine sem_intro (M:=fun t=>mem t [1000051,1000088]) hT hM Tryz.func138 inferInstance rfl rfl rfl rfl rfl rfl ?_
 repeat' (
  (conv=>whnf)
  first
   | ((try ((with_reducible first|apply NumE.go|apply IdxE.go|apply TextE.go|apply LookE.go|apply CallE.go);(conv=>whnf)));(with_reducible apply SideD.mk);(focus ((first|(intro hc;have hc0:=hc;(try simp only [SPLT] at hc);(try refine And.intro (by first|exact hc0|exact ⟨hc0,hc0⟩|exact ⟨hc0,hc0,hc0⟩) ?_))|skip);first|exact sideG)))
   | ((with_reducible first|apply DrawR.go0|apply KerB.mk);(focus kernel_rfl))
   | (with_reducible first|apply ends_ret|apply ends_norm|apply Halt'.mk)
   | ((with_reducible apply CondD.mk)<;>intro hb<;>(try simp only [SPLT] at hb)<;>(try first|exact noB)))
 all_goals (try exact (false:Bool))
 repeat' ((conv=>whnf);first|exact endR|(with_reducible first|apply And.intro|apply endsO_ret|apply endsO_norm|apply DLes.cons))
 all_goals (conv=>whnf)
theorem atoms_sem (c:Cond):∀ out:List Cond,out.length+c.acnt≤100000→Sem Tryz.prog 88 [.sl 1 6 (out.map Cond.row),.agg c.row] (.sl 1 6 ((c.ats out).map Cond.row)):=by
 induction c using Cond.ind with
 | h k ks p vs lo hi ih=>
  intro out hn
  have h1:=isAtom_sem k (ks.map Cond.row) p (vs.map fun s => [.str s]) lo hi
  have h2:=has_sem out (.mk k ks p vs lo hi)
  rw [Cond.row_mk] at h2
  have hll:(ks.map Cond.row).length=ks.length:=List.length_map _
  have hol:(out.map Cond.row).length=out.length:=List.length_map _
  rw [acnt_mk] at hn
  rw [Cond.row_mk]
  refine sem_lenA 1 1 rfl rfl rfl fun hks => ?_
  rw [List.length_map] at hks
  rw [← Cond.row_mk]
  have hr:=ats_mk k ks p vs lo hi out
  generalize (Cond.mk k ks p vs lo hi).ats out=r at hr ⊢
  generalize hasC out (.mk k ks p vs lo hi)=b at h2 hr
  generalize isAtomB k=q at h1 hr hn
  rw [Cond.row_mk]
  refine sem_intro (M:=fun t=>mem t [6,1000051,1000088]) hT hM Tryz.func88 inferInstance rfl rfl rfl rfl rfl rfl ?_
  repeat' (
   (conv=>whnf)
   first
    | ((try ((with_reducible first|apply NumE.go|apply IdxE.go|apply TextE.go|apply LookE.go|apply CallE.go);(conv=>whnf)));(with_reducible apply SideD.mk);(focus (first|((try apply givesl);(focus (first|((apply gives_go (h1));(focus (exact DLes.au));(focus exact rfl);(all_goals (exact pre)))|((apply gives_go (h2));(focus (exact DLes.au));(focus exact rfl);(all_goals (exact pre)))|((apply gives_go (has_sem _ _));(focus (exact DLes.au));(focus exact rfl);(all_goals (exact pre)))|((first|apply gives_go (isAtom_sem _ _ _ _ _ _)|apply gives_go (atomsNil_sem _ _)|apply gives_go (hasNil_sem _));(focus (exact DLes.au));(focus exact rfl);(all_goals (exact pre)))));(all_goals exact rfl))|exact side)))
    | ((with_reducible apply CallO.go);(conv=>whnf);(with_reducible apply SideD.mk);(focus (first|((apply giveso_go (atomsO_sem _ _ _));(focus (first|exact rfl|(simp;done)));(focus (exact DLes.au));(focus exact rfl);(all_goals (exact pre))))))
    | ((with_reducible first|apply DrawR.go0|apply KerB.mk);(focus kernel_rfl))
    | (with_reducible first|apply ends_ret|apply ends_norm|apply Halt'.mk)
    | ((with_reducible apply CondD.mk)<;>intro hb<;>(try simp only [SPLT] at hb)<;>(try first|exact noB)))
  all_goals (try exact (false:Bool))
  ·rw [if_neg (by simp_all)] at hr
   refine loop_go (M:=fun t=>mem t [6,1000051,1000088]) hT hM (fun x:Nat × List Cond => [(0,.sl 1 6 (x.2.map Cond.row)),(13,.int .i64 x.1)]) (fun x=>x.1≤ks.length∧x.2.length+Cond.acnts (ks.drop x.1)≤100000∧Cond.atss (ks.drop x.1) x.2=r) (fun x=>ks.length - x.1) ((0,out)) ?_ ?_ ?_
   ·(conv=>whnf)
    refine ⟨?_,by rfl⟩
    repeat' ((conv=>whnf);first|exact endF|exact endF2|with_reducible apply DLes.cons)
   ·exact ⟨Nat.zero_le _,by rw [if_neg (by simp_all)] at hn;simp;omega,hr.symm⟩
   ·rintro ⟨i,acc⟩ ⟨hi,hm,hv⟩
    dsimp only at hi hm hv ⊢
    cases hx:ks[i]? with
    | none=>
     have hm':=List.getElem?_eq_none_iff.1 hx
     rw [List.drop_of_length_le hm',atss_nil] at hv
     subst hv
     repeat' (
      (conv=>whnf)
      first
       | ((try ((with_reducible first|apply NumE.go|apply IdxE.go|apply TextE.go|apply LookE.go|apply CallE.go);(conv=>whnf)));(with_reducible apply SideD.mk);(focus (first|((try apply givesl);(focus (first|((apply gives_go (has_sem _ _));(focus (exact DLes.au));(focus exact rfl);(all_goals (exact pre)))|((first|apply gives_go (isAtom_sem _ _ _ _ _ _)|apply gives_go (atomsNil_sem _ _)|apply gives_go (hasNil_sem _));(focus (exact DLes.au));(focus exact rfl);(all_goals (exact pre)))));(all_goals exact rfl))|exact side)))
       | ((with_reducible apply CallO.go);(conv=>whnf);(with_reducible apply SideD.mk);(focus (first|((apply giveso_go (atomsO_sem _ _ _));(focus (first|exact rfl|(simp;done)));(focus (exact DLes.au));(focus exact rfl);(all_goals (exact pre))))))
       | ((with_reducible first|apply DrawR.go0|apply KerB.mk);(focus kernel_rfl))
       | (with_reducible first|apply ends_ret|apply ends_norm|apply Halt'.mk)
       | ((with_reducible apply CondD.mk)<;>intro hb<;>(try simp only [SPLT] at hb)<;>(try first|exact noB)))
     all_goals (try exact (false:Bool))
     repeat' ((conv=>whnf);first|exact endR|(with_reducible first|apply And.intro|apply endsO_ret|apply endsO_norm|apply DLes.cons))
     all_goals (conv=>whnf)
    | some x=>
     have hlt:=(List.getElem?_eq_some_iff.1 hx).1
     rw [atss_at hx] at hv
     rw [List.drop_eq_getElem_cons hlt,(List.getElem?_eq_some_iff.1 hx).2,acnts_cons] at hm
     have ih':=SemO.of (ih x (List.mem_of_getElem? hx) acc (by omega))
     have hl2:=ats_len x acc
     generalize x.ats acc=acc2 at ih' hv hl2
     obtain ⟨k1,ks1,p1,vs1,lo1,hi1⟩:=x
     rw [Cond.row_mk] at ih'
     repeat' (
      (conv=>whnf)
      first
       | ((try ((with_reducible first|apply NumE.go|apply IdxE.go|apply TextE.go|apply LookE.go|apply CallE.go);(conv=>whnf)));(with_reducible apply SideD.mk);(focus (first|(exact idx_row hx rfl)|((try apply givesl);(focus (first|((apply gives_go (has_sem _ _));(focus (exact DLes.au));(focus exact rfl);(all_goals (exact pre)))|((first|apply gives_go (isAtom_sem _ _ _ _ _ _)|apply gives_go (atomsNil_sem _ _)|apply gives_go (hasNil_sem _));(focus (exact DLes.au));(focus exact rfl);(all_goals (exact pre)))));(all_goals exact rfl))|exact side)))
       | ((with_reducible apply CallO.go);(conv=>whnf);(with_reducible apply SideD.mk);(focus (first|((apply giveso_go (ih'));(focus (first|exact rfl|(simp;done)));(focus (exact DLes.au));(focus exact rfl);(all_goals (exact pre))))))
       | ((with_reducible first|apply DrawR.go0|apply KerB.mk);(focus kernel_rfl))
       | (with_reducible first|apply ends_ret|apply ends_norm|apply Halt'.mk)
       | ((with_reducible apply CondD.mk)<;>intro hb<;>(try simp only [SPLT] at hb)<;>(try first|exact noB)))
     all_goals (try exact (false:Bool))
     refine ⟨(i+1,acc2),⟨by dsimp only;omega,by dsimp only;omega,hv⟩,by dsimp only;omega,?_⟩
     (conv=>whnf)
     refine ⟨?_,by rfl⟩
     repeat' ((conv=>whnf);first|exact endF|exact endF2|with_reducible apply DLes.cons)
  ·rw [if_pos (by simp_all),if_pos (by simp_all)] at hr
   subst hr
   repeat' ((conv=>whnf);first|exact endR|(with_reducible first|apply And.intro|apply endsO_ret|apply endsO_norm|apply DLes.cons))
   all_goals (conv=>whnf)
  ·rw [if_pos (by simp_all),if_neg (by simp_all)] at hr
   subst hr
   repeat' ((conv=>whnf);first|exact endR|(with_reducible first|apply And.intro|apply endsO_ret|apply endsO_norm|apply DLes.cons))
   all_goals (conv=>whnf)
   refine rle_sl ?_
   rw [List.map_append,List.map_cons,List.map_nil,Cond.row_mk]
theorem atomsNil_sem (c:Cond) (hn:c.acnt≤100000):Sem Tryz.prog 88 [.nil,.agg c.row] (.sl 0 6 ((c.ats []).map Cond.row)):=by
 obtain ⟨k,ks,p,vs,lo,hi⟩:=c
 have h1:=isAtom_sem k (ks.map Cond.row) p (vs.map fun s => [.str s]) lo hi
 have h2:=hasNil_sem (.mk k ks p vs lo hi)
 rw [Cond.row_mk] at h2
 have hll:(ks.map Cond.row).length=ks.length:=List.length_map _
 rw [acnt_mk] at hn
 rw [Cond.row_mk]
 refine sem_lenA 1 1 rfl rfl rfl fun hks => ?_
 rw [List.length_map] at hks
 rw [← Cond.row_mk]
 have hr:=ats_mk k ks p vs lo hi []
 rw [show hasC [] (.mk k ks p vs lo hi)=false from rfl] at hr
 generalize (Cond.mk k ks p vs lo hi).ats []=r at hr ⊢
 generalize isAtomB k=q at h1 hr hn
 rw [Cond.row_mk]
 refine sem_intro (M:=fun t=>mem t [6,1000051,1000088]) hT hM Tryz.func88 inferInstance rfl rfl rfl rfl rfl rfl ?_
 repeat' (
  (conv=>whnf)
  first
   | ((try ((with_reducible first|apply NumE.go|apply IdxE.go|apply TextE.go|apply LookE.go|apply CallE.go);(conv=>whnf)));(with_reducible apply SideD.mk);(focus (first|((try apply givesl);(focus (first|((apply gives_go (h1));(focus (exact DLes.au));(focus exact rfl);(all_goals (exact pre)))|((apply gives_go (h2));(focus (exact DLes.au));(focus exact rfl);(all_goals (exact pre)))|((apply gives_go (has_sem _ _));(focus (exact DLes.au));(focus exact rfl);(all_goals (exact pre)))|((first|apply gives_go (isAtom_sem _ _ _ _ _ _)|apply gives_go (atomsNil_sem _ _)|apply gives_go (hasNil_sem _));(focus (exact DLes.au));(focus exact rfl);(all_goals (exact pre)))));(all_goals exact rfl))|exact side)))
   | ((with_reducible apply CallO.go);(conv=>whnf);(with_reducible apply SideD.mk);(focus (first|((apply giveso_go (atomsO_sem _ _ _));(focus (first|exact rfl|(simp;done)));(focus (exact DLes.au));(focus exact rfl);(all_goals (exact pre))))))
   | ((with_reducible first|apply DrawR.go0|apply KerB.mk);(focus kernel_rfl))
   | (with_reducible first|apply ends_ret|apply ends_norm|apply Halt'.mk)
   | ((with_reducible apply CondD.mk)<;>intro hb<;>(try simp only [SPLT] at hb)<;>(try first|exact noB)))
 all_goals (try exact (false:Bool))
 ·rw [if_neg (by simp_all)] at hr
  refine loop_go (M:=fun t=>mem t [6,1000051,1000088]) hT hM (fun x:Nat × List Cond => [(0,.sl 1 6 (x.2.map Cond.row)),(13,.int .i64 x.1)]) (fun x=>x.1≤ks.length∧x.2.length+Cond.acnts (ks.drop x.1)≤100000∧Cond.atss (ks.drop x.1) x.2=r) (fun x=>ks.length - x.1) ((0,[])) ?_ ?_ ?_
  ·(conv=>whnf)
   refine ⟨?_,by rfl⟩
   repeat' ((conv=>whnf);first|exact endF|exact endF2|with_reducible apply DLes.cons)
  ·exact ⟨Nat.zero_le _,by rw [if_neg (by simp_all)] at hn;simp;omega,hr.symm⟩
  ·rintro ⟨i,acc⟩ ⟨hi,hm,hv⟩
   dsimp only at hi hm hv ⊢
   cases hx:ks[i]? with
   | none=>
    have hm':=List.getElem?_eq_none_iff.1 hx
    rw [List.drop_of_length_le hm',atss_nil] at hv
    subst hv
    repeat' (
     (conv=>whnf)
     first
      | ((try ((with_reducible first|apply NumE.go|apply IdxE.go|apply TextE.go|apply LookE.go|apply CallE.go);(conv=>whnf)));(with_reducible apply SideD.mk);(focus (first|((try apply givesl);(focus (first|((apply gives_go (has_sem _ _));(focus (exact DLes.au));(focus exact rfl);(all_goals (exact pre)))|((first|apply gives_go (isAtom_sem _ _ _ _ _ _)|apply gives_go (atomsNil_sem _ _)|apply gives_go (hasNil_sem _));(focus (exact DLes.au));(focus exact rfl);(all_goals (exact pre)))));(all_goals exact rfl))|exact side)))
      | ((with_reducible apply CallO.go);(conv=>whnf);(with_reducible apply SideD.mk);(focus (first|((apply giveso_go (atomsO_sem _ _ _));(focus (first|exact rfl|(simp;done)));(focus (exact DLes.au));(focus exact rfl);(all_goals (exact pre))))))
      | ((with_reducible first|apply DrawR.go0|apply KerB.mk);(focus kernel_rfl))
      | (with_reducible first|apply ends_ret|apply ends_norm|apply Halt'.mk)
      | ((with_reducible apply CondD.mk)<;>intro hb<;>(try simp only [SPLT] at hb)<;>(try first|exact noB)))
    all_goals (try exact (false:Bool))
    repeat' ((conv=>whnf);first|exact endR|(with_reducible first|apply And.intro|apply endsO_ret|apply endsO_norm|apply DLes.cons))
    all_goals (conv=>whnf)
   | some x=>
    have hlt:=(List.getElem?_eq_some_iff.1 hx).1
    rw [atss_at hx] at hv
    rw [List.drop_eq_getElem_cons hlt,(List.getElem?_eq_some_iff.1 hx).2,acnts_cons] at hm
    have ih':=SemO.of (atoms_sem x acc (by omega))
    have hl2:=ats_len x acc
    generalize x.ats acc=acc2 at ih' hv hl2
    obtain ⟨k1,ks1,p1,vs1,lo1,hi1⟩:=x
    rw [Cond.row_mk] at ih'
    repeat' (
     (conv=>whnf)
     first
      | ((try ((with_reducible first|apply NumE.go|apply IdxE.go|apply TextE.go|apply LookE.go|apply CallE.go);(conv=>whnf)));(with_reducible apply SideD.mk);(focus (first|(exact idx_row hx rfl)|((try apply givesl);(focus (first|((apply gives_go (has_sem _ _));(focus (exact DLes.au));(focus exact rfl);(all_goals (exact pre)))|((first|apply gives_go (isAtom_sem _ _ _ _ _ _)|apply gives_go (atomsNil_sem _ _)|apply gives_go (hasNil_sem _));(focus (exact DLes.au));(focus exact rfl);(all_goals (exact pre)))));(all_goals exact rfl))|exact side)))
      | ((with_reducible apply CallO.go);(conv=>whnf);(with_reducible apply SideD.mk);(focus (first|((apply giveso_go (ih'));(focus (first|exact rfl|(simp;done)));(focus (exact DLes.au));(focus exact rfl);(all_goals (exact pre))))))
      | ((with_reducible first|apply DrawR.go0|apply KerB.mk);(focus kernel_rfl))
      | (with_reducible first|apply ends_ret|apply ends_norm|apply Halt'.mk)
      | ((with_reducible apply CondD.mk)<;>intro hb<;>(try simp only [SPLT] at hb)<;>(try first|exact noB)))
    all_goals (try exact (false:Bool))
    refine ⟨(i+1,acc2),⟨by dsimp only;omega,by dsimp only;omega,hv⟩,by dsimp only;omega,?_⟩
    (conv=>whnf)
    refine ⟨?_,by rfl⟩
    repeat' ((conv=>whnf);first|exact endF|exact endF2|with_reducible apply DLes.cons)
 ·rw [if_pos (by simp_all),if_neg (by simp)] at hr
  subst hr
  repeat' ((conv=>whnf);first|exact endR|(with_reducible first|apply And.intro|apply endsO_ret|apply endsO_norm|apply DLes.cons))
  all_goals (conv=>whnf)
  rw [List.nil_append,List.map_cons,List.map_nil,Cond.row_mk]
  exact rle_sl0 rfl
theorem atomsO_sem (c:Cond) (out:List Cond) (h:out.length+c.acnt≤100000):SemO Tryz.prog 88 (.sl 1 6 (out.map Cond.row)) [.agg c.row] (.sl 1 6 ((c.ats out).map Cond.row)) none:=SemO.of (atoms_sem c out h)
end Go.Proofs.YtfolfppcadjccaaGreatDoor
