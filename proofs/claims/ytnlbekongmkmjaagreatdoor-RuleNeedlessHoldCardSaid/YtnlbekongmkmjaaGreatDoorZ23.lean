/- Conditions: their sizes, their atoms, and short ones (plain). Conditions: their atoms, and short ones (plain). Trees of segments, and what is wrong with them (plain). Formulas: conditions whose atoms are numbers (plain). What conditions say of trees (plain). Trees are right, and what is found in them: the program (walks). Trees are right: the program (walks). What is found in trees: the program (walks). Short conditions hold of the same trees, and are short (plain). The atoms of a condition: the program's and the reference's (walks). Formulas: the program's (walks). Formulas of conditions, and their tables: the program's (walks). Tables of formulas: the program's (walks). Formulas of conditions together (program), and what the reference evaluates (walks). -/
import Derived.Test.YtnlbekongmkmjaaGreatDoorZ16
import Derived.Test.YtnlbekongmkmjaaGreatDoorZ20
import Derived.Test.YtnlbekongmkmjaaGreatDoorZ22
import Derived.Test.YtnlbekongmkmjaaGreatDoorZ18
namespace Go.Proofs.YtnlbekongmkmjaaGreatDoor
set_option linter.unusedSimpArgs false
set_option linter.unusedVariables false
open Go.RowKit
def Cond.kind:Cond→Int
 | .mk k _ _ _ _ _=>k
def Cond.kids:Cond→List Cond
 | .mk _ ks _ _ _ _=>ks
mutual
/-- How many parts a condition has. -/
def Cond.size:Cond→Nat
 | .mk _ ks _ _ _ _=>Cond.sizes ks+1
def Cond.sizes:List Cond→Nat
 | []=>0
 | c::l=>c.size+Cond.sizes l
end
theorem size_mk (k:Int) (ks:List Cond) (p:Str) (vs:List Str) (lo hi:Int):(Cond.mk k ks p vs lo hi).size=Cond.sizes ks+1:=by rw [Cond.size]
theorem sizes_cons (c:Cond) (l:List Cond):Cond.sizes (c::l)=c.size+Cond.sizes l:=by rw [Cond.sizes]
theorem size_pos (c:Cond):1≤c.size:=by obtain ⟨k,ks,p,vs,lo,hi⟩:=c;rw [size_mk];omega
theorem len_sizes:∀ l:List Cond,l.length≤Cond.sizes l
 | []=>Nat.zero_le _
 | c::l=>by rw [sizes_cons,List.length_cons];have:=len_sizes l;have:=size_pos c;omega
attribute [irreducible] Cond.size Cond.sizes
/-- What every part of a condition is like. -/
inductive Cond.Nice (n:Nat):Cond→Prop where
 | mk {k:Int} {ks:List Cond} {p:Str} {vs:List Str} {lo hi:Int} (h1:ks.length≤n) (h2:vs.length≤1000) (hp:p.length≤9223372036854775807) (hv:∀ v ∈ vs,v.length≤9223372036854775807)
   (hk:k=1∨k=2∨k=3→ks ≠ []) (h4:∀ x ∈ ks,x.Nice n):(Cond.mk k ks p vs lo hi).Nice n
theorem nice_small {n:Nat} (hn:n≤1000) (c:Cond):c.Nice n→c.Small:=by
 induction c using Cond.ind with
 | h k ks p vs lo hi ih=>
  rintro ⟨h1,h2,hp,hv,hk,h4⟩
  exact .mk (by omega) h2 fun x hx=>ih x hx (h4 x hx)
/-- What is right has few parts, and each part has what it needs. -/
theorem own_ok {k:Int} {nk:Nat} {p:Str} {vs:List Str} {lo hi:Int} (h:ownErr k nk p vs lo hi=0):vs.length≤1000∧(k=1∨k=2∨k=3→nk ≠ 0):=by
 unfold ownErr at h
 split at h
 ·cases h
 ·split at h
  ·cases h
  ·rename_i hf
   have hf:formB k nk p vs.length lo hi=false:=by simpa using hf
   unfold formB usesOfB overB at hf
   simp only [Bool.or_eq_false_iff] at hf
   obtain ⟨⟨⟨⟨_,_⟩,h3⟩,_⟩,h5⟩:=hf
   refine ⟨?_,fun hk hn => ?_⟩
   ·by_cases h5:k=5
    ·subst h5
     rw [if_neg (by decide)] at h
     split at h
     ·rename_i hh
      omega
     ·rw [if_pos rfl] at h
      unfold valuesErr at h
      split at h
      ·cases h
      ·split at h
       ·cases h
       ·omega
    ·have:decide (0 < vs.length)=false:=by
      rw [Bool.and_eq_false_iff] at h3
      rcases h3 with h3|h3
      ·simp at h3;exact absurd h3 h5
      ·exact h3
     simp at this
     simp [this]
   ·subst hn
    rcases hk with rfl|rfl|rfl<;>simp at h5
theorem chks_ok {d:Int}:∀ (l:List Cond),(∀ c ∈ l,∀ n,0≤n→n≤200→c.Txt→(c.chk d n).2=0→(c.chk d n).1=n+c.size∧c.Nice 200)→∀ n,0≤n→n≤200→(∀ c ∈ l,c.Txt)→(Cond.chks l d n).2=0→(Cond.chks l d n).1=n+Cond.sizes l∧∀ c ∈ l,c.Nice 200
 | [],_,n,_,_,_,_=>by rw [chks_nil];unfold Cond.sizes;exact ⟨by simp,by simp⟩
 | c::l,hc,n,hn0,hn,ht,h=>by
  have hat:=chks_at (l:=c::l) (i:=0) (c:=c) rfl d n
  rw [List.drop_zero] at hat
  rw [hat] at h ⊢
  by_cases he:(c.chk d n).2=0
  ·rw [if_neg (by simp [he])] at h ⊢
   obtain ⟨h1,h2⟩:=hc c (by simp) n hn0 hn (ht c (by simp)) he
   have hb:=(chk_bd c d n hn).2 he
   rw [show List.drop (0+1) (c::l)=l from rfl] at h ⊢
   obtain ⟨h3,h4⟩:=chks_ok l (fun x hx=>hc x (by simp [hx])) _ (by rw [h1];omega) hb (fun x hx=>ht x (by simp [hx])) h
   refine ⟨by rw [h3,h1,sizes_cons];omega,fun x hx => ?_⟩
   rcases List.mem_cons.1 hx with rfl|hx
   ·exact h2
   ·exact h4 x hx
  ·rw [if_pos he] at h
   exact absurd h he
theorem chk_ok (c:Cond):∀ d n:Int,n≤200→0≤n→c.Txt→(c.chk d n).2=0→(c.chk d n).1=n+c.size∧c.Nice 200:=by
 induction c using Cond.ind with
 | h k ks p vs lo hi ih=>
  intro d n hn hn0 ht h
  obtain ⟨hp,hv,hks⟩:=ht
  have hb:=chk_bd (.mk k ks p vs lo hi) d n hn
  rw [chk_mk] at h hb ⊢
  split at h
  ·cases h
  ·rename_i h1
   rw [if_neg h1] at hb ⊢
   split at h
   ·rename_i he
    exact absurd h he
   ·rename_i he
    rw [if_neg he] at hb ⊢
    obtain ⟨h2,h3⟩:=chks_ok (d:=d+1) ks (fun c hc m h0 hm ht hh=>ih c hc (d+1) m hm h0 ht hh) (n+1) (by omega) (by omega) hks h
    obtain ⟨o1,o2⟩:=own_ok (by simpa using he)
    have hl:=len_sizes ks
    have h200:=hb.2 h
    refine ⟨by rw [h2,size_mk];omega,.mk (by omega) o1 hp hv (fun hk e=>o2 hk (by rw [e];rfl)) h3⟩
end Go.Proofs.YtnlbekongmkmjaaGreatDoor
namespace Go.Proofs.YtnlbekongmkmjaaGreatDoor
set_option linter.unusedSimpArgs false
set_option linter.unusedVariables false
open Go.RowKit
def isAtomB (k:Int):Bool := !(k == 1) && !(k == 2) && !(k == 3)
mutual
/-- How many atoms a condition has, each as often as it stands there. -/
def Cond.acnt:Cond→Nat
 | .mk k ks _ _ _ _=>if isAtomB k=true then 1 else Cond.acnts ks
def Cond.acnts:List Cond→Nat
 | []=>0
 | c::l=>c.acnt+Cond.acnts l
end
theorem acnt_mk (k:Int) (ks:List Cond) (p:Str) (vs:List Str) (lo hi:Int):(Cond.mk k ks p vs lo hi).acnt=if isAtomB k=true then 1 else Cond.acnts ks:=by rw [Cond.acnt]
theorem acnts_nil:Cond.acnts []=0:=by rw [Cond.acnts]
theorem acnts_cons (c:Cond) (l:List Cond):Cond.acnts (c::l)=c.acnt+Cond.acnts l:=by rw [Cond.acnts]
attribute [irreducible] Cond.acnt Cond.acnts
mutual
/-- The atoms of a condition behind others, each once. -/
def Cond.ats:Cond→List Cond→List Cond
 | .mk k ks p vs lo hi,out=>if isAtomB k=true then (if hasC out (.mk k ks p vs lo hi)=true then out else out ++ [.mk k ks p vs lo hi]) else Cond.atss ks out
def Cond.atss:List Cond→List Cond→List Cond
 | [],out=>out
 | c::l,out=>Cond.atss l (c.ats out)
end
theorem ats_mk (k:Int) (ks:List Cond) (p:Str) (vs:List Str) (lo hi:Int) (out:List Cond):(Cond.mk k ks p vs lo hi).ats out=if isAtomB k=true then (if hasC out (.mk k ks p vs lo hi)=true then out else out ++ [.mk k ks p vs lo hi]) else Cond.atss ks out:=by rw [Cond.ats]
theorem atss_nil (out:List Cond):Cond.atss [] out=out:=by rw [Cond.atss]
theorem atss_cons (c:Cond) (l out:List Cond):Cond.atss (c::l) out=Cond.atss l (c.ats out):=by rw [Cond.atss]
attribute [irreducible] Cond.ats Cond.atss
theorem atss_at {l:List Cond} {i:Nat} {c:Cond} (h:l[i]?=some c) (out:List Cond):Cond.atss (l.drop i) out=Cond.atss (l.drop (i+1)) (c.ats out):=by
 rw [List.drop_eq_getElem_cons (List.getElem?_eq_some_iff.1 h).1,(List.getElem?_eq_some_iff.1 h).2,atss_cons]
theorem atss_len:∀ (l:List Cond),(∀ c ∈ l,∀ out,out.length≤(c.ats out).length∧(c.ats out).length≤out.length+c.acnt)→∀ out,out.length≤(Cond.atss l out).length∧(Cond.atss l out).length≤out.length+Cond.acnts l
 | [],_,out=>by rw [atss_nil];rw [acnts_nil];omega
 | c::l,h,out=>by
  obtain ⟨h1,h2⟩:=h c (by simp) out
  obtain ⟨h3,h4⟩:=atss_len l (fun x hx=>h x (by simp [hx])) (c.ats out)
  rw [atss_cons,acnts_cons]
  omega
theorem ats_len (c:Cond):∀ out,out.length≤(c.ats out).length∧(c.ats out).length≤out.length+c.acnt:=by
 induction c using Cond.ind with
 | h k ks p vs lo hi ih=>
  intro out
  rw [ats_mk,acnt_mk]
  split
  ·split
   ·omega
   ·simp
  ·have:=atss_len ks ih out
   omega
/-- What stands in a list, and is put there if it isn't yet. -/
def addC (acc:List Cond) (y:Cond):List Cond:=if hasC acc y=true then acc else acc ++ [y]
def innerC (k:Int) (x:Cond):List Cond:=if x.kind=k then x.kids else [x]
def flatC (k:Int):List Cond→List Cond→List Cond
 | [],acc=>acc
 | x::l,acc=>flatC k l ((innerC k x).foldl addC acc)
/-- An All, or Any, whose conditions are short. -/
def severalE (k:Int) (F A:List Cond) (cb:Bool) (p:Str) (vs:List Str) (lo hi:Int):Cond:=
 if F.length=1 then F.headD noneC else if cb=false then .mk k F p vs lo hi else
  if k=1 then notC (anyC [A.headD noneC,notC (A.headD noneC)]) else anyC [A.headD noneC,notC (A.headD noneC)]
def severalC (k:Int) (ks:List Cond) (p:Str) (vs:List Str) (lo hi:Int):Cond:=
 severalE k (flatC k ks []) ((Cond.mk k (flatC k ks []) p vs lo hi).ats []) (contraC (flatC k ks [])) p vs lo hi
def endC (k:Int) (ks:List Cond) (p:Str) (vs:List Str) (lo hi:Int):Cond:=
 if k=3∧(ks.headD noneC).kind=3 then (ks.headD noneC).kids.headD noneC else if k=1∨k=2 then severalC k ks p vs lo hi else .mk k ks p vs lo hi
mutual
def Cond.short:Cond→Cond
 | .mk k ks p vs lo hi=>endC k (Cond.shorts ks) p vs lo hi
def Cond.shorts:List Cond→List Cond
 | [] => []
 | c::l=>c.short::Cond.shorts l
end
attribute [irreducible] Cond.short
theorem kinds {k:Int} (ha:¬ isAtomB k=true):k=1∨k=2∨k=3:=by
 simp only [isAtomB,Bool.not_eq_true,Bool.and_eq_false_iff,Bool.not_eq_false',beq_iff_eq] at ha
 rcases ha with (h|h)|h
 ·exact .inl h
 ·exact .inr (.inl h)
 ·exact .inr (.inr h)
end Go.Proofs.YtnlbekongmkmjaaGreatDoor
namespace Go.Proofs.YtnlbekongmkmjaaGreatDoor
set_option linter.unusedSimpArgs false
set_option linter.unusedVariables false
open Go.RowKit
set_option maxRecDepth 100000
/-- An element: its repeats, each of which is parts. -/
abbrev El:=List (List Str)
def partR (s:Str):List D := [.str s]
def repR (p:List Str):List D := [.sl 0 1 (p.map partR)]
def elR (e:El):List D := [.sl 0 1 (e.map repR)]
inductive Br where
 | mk (n t:Str) (els:List El) (kids:List Br)
mutual
/-- Its cells. -/
def Br.row:Br→List D
 | .mk n t els ks => [.str n,.str t,.sl 0 1 (els.map elR),.sl 0 4 (Br.rows ks)]
def Br.rows:List Br→List (List D)
 | [] => []
 | c::l=>c.row::Br.rows l
end
theorem Br.rows_map (l:List Br):Br.rows l=l.map Br.row:=by
 induction l with
 | nil=>rw [Br.rows,List.map_nil]
 | cons c l ih=>rw [Br.rows,List.map_cons,ih]
theorem Br.row_mk (n t:Str) (els:List El) (ks:List Br):(Br.mk n t els ks).row = [.str n,.str t,.sl 0 1 (els.map elR),.sl 0 4 (ks.map Br.row)]:=by
 rw [Br.row,Br.rows_map]
attribute [irreducible] Br.row
theorem Br.ind {p:Br→Prop} (h:∀ n t els ks,(∀ x ∈ ks,p x)→p (.mk n t els ks)) (c:Br):p c:=
 Br.rec (motive_1:=p) (motive_2:=fun l=>∀ x ∈ l,p x) (fun n t els ks ih=>h n t els ks ih) (fun x hx=>by simp at hx) (fun c l h1 h2 x hx=>by
  rcases List.mem_cons.1 hx with rfl|hx
  ·exact h1
  ·exact h2 x hx) c
theorem idx_br {l:List Br} {i:Int} {j:Nat} {n t:Str} {els:List El} {ks:List Br} (h:l[j]?=some (.mk n t els ks)) (hi':i=j):0≤i∧(l.map Br.row)[i.toNat]?=some [.str n,.str t,.sl 0 1 (els.map elR),.sl 0 4 (ks.map Br.row)]:=by
 subst hi'
 refine ⟨by omega,?_⟩
 rw [Int.toNat_natCast,List.getElem?_map,h,Option.map_some,Br.row_mk]
def Br.name:Br→Str
 | .mk n _ _ _=>n
def Br.tag:Br→Str
 | .mk _ t _ _=>t
def Br.els:Br→List El
 | .mk _ _ e _=>e
def Br.kids:Br→List Br
 | .mk _ _ _ k=>k
/-- What is wrong with a text, with parts, repeats, elements, a segment. -/
def textErr (s:Str):Int:=if 1000 < s.length then 2 else if textB s=true then 0 else 3
def partsErr:List Str→Int
 | []=>0
 | s::l=>if textErr s ≠ 0 then textErr s else partsErr l
def repsErr:List (List Str)→Int
 | []=>0
 | p::l=>if p.length=0 then 9 else if 20 < p.length then 2 else if partsErr p ≠ 0 then partsErr p else repsErr l
def elErr (e:El):Int:=if e.length=0 then 9 else if 20 < e.length then 2 else repsErr e
def segElErr:List El→Int
 | []=>0
 | e::l=>if elErr e ≠ 0 then elErr e else segElErr l
def segErr (t:Str) (els:List El):Int:=if isTagB t=false then 5 else if 50 < els.length then 2 else segElErr els
theorem partsErr_at {l:List Str} {i:Nat} {s:Str} (h:l[i]?=some s):partsErr (l.drop i)=if textErr s ≠ 0 then textErr s else partsErr (l.drop (i+1)):=by
 rw [List.drop_eq_getElem_cons (List.getElem?_eq_some_iff.1 h).1,(List.getElem?_eq_some_iff.1 h).2];rfl
theorem repsErr_at {l:List (List Str)} {i:Nat} {p:List Str} (h:l[i]?=some p):repsErr (l.drop i)=if p.length=0 then 9 else if 20 < p.length then 2 else if partsErr p ≠ 0 then partsErr p else repsErr (l.drop (i+1)):=by
 rw [List.drop_eq_getElem_cons (List.getElem?_eq_some_iff.1 h).1,(List.getElem?_eq_some_iff.1 h).2];rfl
theorem segElErr_at {l:List El} {i:Nat} {e:El} (h:l[i]?=some e):segElErr (l.drop i)=if elErr e ≠ 0 then elErr e else segElErr (l.drop (i+1)):=by
 rw [List.drop_eq_getElem_cons (List.getElem?_eq_some_iff.1 h).1,(List.getElem?_eq_some_iff.1 h).2];rfl
def headNamed:List Br→Bool
 | []=>false
 | b::_=>b.name != []
def pathMany (n:Str) (many:Int):Int:=if n = [] then many+1 else many
mutual
/-- How many segments there are, and what is wrong. -/
def Br.chk (deep many:Int):Br→Int × Int
 | .mk n t els ks=>
  if 2000 < pathMany n many∨6 < deep then (pathMany n many,2)
  else if n ≠ []∧isNameB n=false then (pathMany n many,5)
  else if n = []∧0 < ks.length then (pathMany n many,3)
  else if n ≠ []∧(¬ (t = []∧els.length=0)∨ks.length=0∨headNamed ks=true) then (pathMany n many,3)
  else if n = [] then (pathMany n many,segErr t els)
  else Br.chks (deep+1) (pathMany n many) ks
def Br.chks (deep many:Int):List Br→Int × Int
 | []=>(many,0)
 | b::l=>if (b.chk deep many).2 ≠ 0 then b.chk deep many else Br.chks deep (b.chk deep many).1 l
end
theorem bchk_mk (deep many:Int) (n t:Str) (els:List El) (ks:List Br):(Br.mk n t els ks).chk deep many =
  if 2000 < pathMany n many∨6 < deep then (pathMany n many,2)
  else if n ≠ []∧isNameB n=false then (pathMany n many,5)
  else if n = []∧0 < ks.length then (pathMany n many,3)
  else if n ≠ []∧(¬ (t = []∧els.length=0)∨ks.length=0∨headNamed ks=true) then (pathMany n many,3)
  else if n = [] then (pathMany n many,segErr t els)
  else Br.chks (deep+1) (pathMany n many) ks:=by rw [Br.chk]
theorem bchks_nil (deep many:Int):Br.chks deep many []=(many,0):=by rw [Br.chks]
theorem bchks_at {l:List Br} {i:Nat} {b:Br} {deep many:Int} (h:l[i]?=some b):Br.chks deep many (l.drop i)=if (b.chk deep many).2 ≠ 0 then b.chk deep many else Br.chks deep (b.chk deep many).1 (l.drop (i+1)):=by
 rw [List.drop_eq_getElem_cons (List.getElem?_eq_some_iff.1 h).1,(List.getElem?_eq_some_iff.1 h).2,Br.chks]
theorem bchks_cons (deep many:Int) (b:Br) (l:List Br):Br.chks deep many (b::l)=if (b.chk deep many).2 ≠ 0 then b.chk deep many else Br.chks deep (b.chk deep many).1 l:=by
 have:=bchks_at (l:=b::l) (i:=0) (b:=b) (deep:=deep) (many:=many) rfl
 rwa [List.drop_zero] at this
attribute [irreducible] Br.chk Br.chks
def treeErr (l:List Br):Int:=(Br.chks 0 0 l).2
/-- Texts that can be there. -/
inductive Br.Txt:Br→Prop where
 | mk {n t:Str} {els:List El} {ks:List Br} (h1:n.length≤9223372036854775807) (h2:t.length≤9223372036854775807) (h3:∀ e ∈ els,∀ p ∈ e,∀ s ∈ p,s.length≤9223372036854775807) (h4:∀ x ∈ ks,x.Txt) (h5:ks.length≤9223372036854775807):(Br.mk n t els ks).Txt
/-- The lists of branches that names lead to, from lists. -/
def insideL:List Str→List (List Br)→List (List Br)
 | [],ls=>ls
 | n::ns,ls=>insideL ns (ls.flatMap fun l=>(l.filter fun b=>b.name == n).map Br.kids)
/-- The same from one list. -/
def inside1:List Str→List Br→List (List Br)
 | [],l => [l]
 | n::ns,l=>(l.filter fun b=>b.name == n).flatMap fun b=>inside1 ns b.kids
theorem insideL_flat (ns:List Str):∀ ls:List (List Br),insideL ns ls=ls.flatMap (inside1 ns):=by
 induction ns with
 | nil=>intro ls;simp [insideL,inside1]
 | cons n ns ih=>
  intro ls
  rw [insideL,ih,List.flatMap_assoc]
  congr 1
  funext l
  rw [inside1,List.flatMap_map]
theorem insideL_one (ns:List Str) (l:List Br):insideL ns [l]=inside1 ns l:=by rw [insideL_flat];simp
/-- The texts of a segment that a path means: an element (0: the tag), and a part. -/
def segTexts (t:Str) (els:List El) (element part:Int):List Str:=
 if element=0 then [t] else match els[(element - 1).toNat]? with
  | none => []
  | some e=>(e.filterMap fun p=>p[(max part 1 - 1).toNat]?).filter fun s=>s != []
def listTexts (tag:Str) (element part:Int) (l:List Br):List Str:=
 l.flatMap fun b=>if b.name = []∧b.tag=tag then segTexts b.tag b.els element part else []
def findTexts (names:List Str) (tag:Str) (element part:Int) (l:List Br):List Str:=(inside1 names l).flatMap (listTexts tag element part)
end Go.Proofs.YtnlbekongmkmjaaGreatDoor
namespace Go.Proofs.YtnlbekongmkmjaaGreatDoor
set_option linter.unusedSimpArgs false
set_option linter.unusedVariables false
open Go.RowKit
set_option maxRecDepth 100000
inductive Form where
 | mk (kind atom:Int) (of:List Form)
mutual
/-- Its cells. -/
def Form.row:Form→List D
 | .mk k a fs => [.int .i64 k,.int .i64 a,.sl 0 3 (Form.rows fs)]
def Form.rows:List Form→List (List D)
 | [] => []
 | c::l=>c.row::Form.rows l
end
theorem Form.rows_map (l:List Form):Form.rows l=l.map Form.row:=by
 induction l with
 | nil=>rw [Form.rows,List.map_nil]
 | cons c l ih=>rw [Form.rows,List.map_cons,ih]
theorem Form.row_mk (k a:Int) (fs:List Form):(Form.mk k a fs).row = [.int .i64 k,.int .i64 a,.sl 0 3 (fs.map Form.row)]:=by
 rw [Form.row,Form.rows_map]
attribute [irreducible] Form.row
theorem Form.ind {p:Form→Prop} (h:∀ k a fs,(∀ x ∈ fs,p x)→p (.mk k a fs)) (c:Form):p c:=
 Form.rec (motive_1:=p) (motive_2:=fun l=>∀ x ∈ l,p x) (fun k a fs ih=>h k a fs ih) (fun x hx=>by simp at hx) (fun c l h1 h2 x hx=>by
  rcases List.mem_cons.1 hx with rfl|hx
  ·exact h1
  ·exact h2 x hx) c
theorem idx_form {l:List Form} {i:Int} {j:Nat} {k a:Int} {fs:List Form} (h:l[j]?=some (.mk k a fs)) (hi':i=j):0≤i∧(l.map Form.row)[i.toNat]?=some [.int .i64 k,.int .i64 a,.sl 0 3 (fs.map Form.row)]:=by
 subst hi'
 refine ⟨by omega,?_⟩
 rw [Int.toNat_natCast,List.getElem?_map,h,Option.map_some,Form.row_mk]
/-- A bit of a number. -/
def bitZ (a bits:Int):Bool:=bits / 2 ^ a.toNat % 2 == 1
mutual
/-- Is a formula true, if the atoms with these bits are? -/
def Form.tv (bits:Int):Form→Bool
 | .mk k a fs=>if k=1 then Form.tvA bits fs else if k=2 then Form.tvO bits fs else if k=3 then !Form.tvH bits fs else bitZ a bits
def Form.tvA (bits:Int):List Form→Bool
 | []=>true
 | f::l=>f.tv bits && Form.tvA bits l
def Form.tvO (bits:Int):List Form→Bool
 | []=>false
 | f::l=>f.tv bits || Form.tvO bits l
def Form.tvH (bits:Int):List Form→Bool
 | []=>false
 | f::_=>f.tv bits
end
theorem ftv_mk (bits k a:Int) (fs:List Form):(Form.mk k a fs).tv bits=if k=1 then Form.tvA bits fs else if k=2 then Form.tvO bits fs else if k=3 then !Form.tvH bits fs else bitZ a bits:=by rw [Form.tv]
theorem tvA_all (bits:Int):∀ l:List Form,Form.tvA bits l = !(l.any fun f => !f.tv bits)
 | []=>by rw [Form.tvA];rfl
 | f::l=>by rw [Form.tvA,tvA_all bits l,List.any_cons];cases f.tv bits<;>simp
theorem tvO_any (bits:Int):∀ l:List Form,Form.tvO bits l=l.any fun f=>f.tv bits
 | []=>by rw [Form.tvO];rfl
 | f::l=>by rw [Form.tvO,tvO_any bits l,List.any_cons]
theorem tvH_at {bits:Int} {l:List Form} {f:Form} (h:l[0]?=some f):Form.tvH bits l=f.tv bits:=by
 cases l with
 | nil=>cases h
 | cons a l=>rw [Form.tvH];simp at h;rw [h]
attribute [irreducible] Form.tv Form.tvA Form.tvO Form.tvH
/-- What a formula needs to be evaluated. -/
inductive Form.Ok:Form→Prop where
 | mk {k a:Int} {fs:List Form} (h1:k=3→fs ≠ []) (h2:k ≠ 1→k ≠ 2→k ≠ 3→0≤a∧a≤62) (h3:∀ x ∈ fs,x.Ok):(Form.mk k a fs).Ok
mutual
/-- Is a condition true, if the atoms with these bits are? -/
def Cond.tv (L:List Cond) (bits:Int):Cond→Bool
 | .mk k ks p vs lo hi=>if k=1 then Cond.tvA L bits ks else if k=2 then Cond.tvO L bits ks else if k=3 then !Cond.tvH L bits ks else bitZ (numC L (.mk k ks p vs lo hi)) bits
def Cond.tvA (L:List Cond) (bits:Int):List Cond→Bool
 | []=>true
 | f::l=>f.tv L bits && Cond.tvA L bits l
def Cond.tvO (L:List Cond) (bits:Int):List Cond→Bool
 | []=>false
 | f::l=>f.tv L bits || Cond.tvO L bits l
def Cond.tvH (L:List Cond) (bits:Int):List Cond→Bool
 | []=>false
 | f::_=>f.tv L bits
end
theorem ctv_mk (L:List Cond) (bits k:Int) (ks:List Cond) (p:Str) (vs:List Str) (lo hi:Int):(Cond.mk k ks p vs lo hi).tv L bits=if k=1 then Cond.tvA L bits ks else if k=2 then Cond.tvO L bits ks else if k=3 then !Cond.tvH L bits ks else bitZ (numC L (.mk k ks p vs lo hi)) bits:=by rw [Cond.tv]
theorem ctvO_nil (L:List Cond) (bits:Int):Cond.tvO L bits []=false:=by rw [Cond.tvO]
theorem ctvO_cons (L:List Cond) (bits:Int) (c:Cond) (l:List Cond):Cond.tvO L bits (c::l)=(c.tv L bits || Cond.tvO L bits l):=by rw [Cond.tvO]
theorem ctvH_at {L:List Cond} {bits:Int} {l:List Cond} {f:Cond} (h:l[0]?=some f):Cond.tvH L bits l=f.tv L bits:=by
 cases l with
 | nil=>cases h
 | cons a l=>rw [Cond.tvH];simp at h;rw [h]
theorem ctvA_all (L:List Cond) (bits:Int):∀ l:List Cond,Cond.tvA L bits l=l.all fun f=>f.tv L bits
 | []=>by rw [Cond.tvA];rfl
 | f::l=>by rw [Cond.tvA,ctvA_all L bits l,List.all_cons]
mutual
/-- The formula of a condition. -/
def Cond.form (L:List Cond):Cond→Form
 | .mk k ks p vs lo hi=>if isAtomB k=true then .mk k (numC L (.mk k ks p vs lo hi)) [] else .mk k 0 (Cond.forms L ks)
def Cond.forms (L:List Cond):List Cond→List Form
 | [] => []
 | c::l=>c.form L::Cond.forms L l
end
theorem form_mk (L:List Cond) (k:Int) (ks:List Cond) (p:Str) (vs:List Str) (lo hi:Int):(Cond.mk k ks p vs lo hi).form L=if isAtomB k=true then .mk k (numC L (.mk k ks p vs lo hi)) [] else .mk k 0 (Cond.forms L ks):=by rw [Cond.form]
theorem forms_map (L:List Cond):∀ l:List Cond,Cond.forms L l=l.map (Cond.form L)
 | []=>by rw [Cond.forms];rfl
 | c::l=>by rw [Cond.forms,forms_map L l];rfl
theorem atomK {k:Int}:isAtomB k=true↔k ≠ 1∧k ≠ 2∧k ≠ 3:=by
 unfold isAtomB
 simp
 omega
theorem forms_tv (L:List Cond) (bits:Int):∀ l:List Cond,(∀ c ∈ l,(c.form L).tv bits=c.tv L bits)→Form.tvA bits (Cond.forms L l)=Cond.tvA L bits l∧Form.tvO bits (Cond.forms L l)=Cond.tvO L bits l∧Form.tvH bits (Cond.forms L l)=Cond.tvH L bits l
 | [],_=>by rw [Cond.forms];unfold Form.tvA Form.tvO Form.tvH Cond.tvA Cond.tvO Cond.tvH;exact ⟨rfl,rfl,rfl⟩
 | c::l,h=>by
  obtain ⟨h1,h2,h3⟩:=forms_tv L bits l fun x hx=>h x (by simp [hx])
  have h0:=h c (by simp)
  rw [Cond.forms]
  unfold Form.tvA Form.tvO Form.tvH Cond.tvA Cond.tvO Cond.tvH
  rw [h1,h2,h0]
  exact ⟨rfl,rfl,rfl⟩
/-- A formula says what its condition says. -/
theorem form_tv (L:List Cond) (bits:Int) (c:Cond):(c.form L).tv bits=c.tv L bits:=by
 induction c using Cond.ind with
 | h k ks p vs lo hi ih=>
  obtain ⟨h1,h2,h3⟩:=forms_tv L bits ks ih
  rw [form_mk,ctv_mk]
  split
  ·rename_i ha
   obtain ⟨g1,g2,g3⟩:=atomK.1 ha
   rw [ftv_mk,if_neg g1,if_neg g2,if_neg g3,if_neg g1,if_neg g2,if_neg g3]
  ·rename_i ha
   rw [ftv_mk,h1,h2,h3]
   split
   ·rfl
   ·split
    ·rfl
    ·split
     ·rfl
     ·rename_i g1 g2 g3
      exact absurd (atomK.2 ⟨g1,g2,g3⟩) ha
attribute [irreducible] Cond.tv Cond.tvA Cond.tvO Cond.tvH Cond.form Cond.forms
/-- All atoms of a condition are in a list. -/
inductive Cond.In (L:List Cond):Cond→Prop where
 | mk {k:Int} {ks:List Cond} {p:Str} {vs:List Str} {lo hi:Int} (h1:isAtomB k=true→hasC L (.mk k ks p vs lo hi)=true) (h2:isAtomB k=false→∀ x ∈ ks,x.In L):(Cond.mk k ks p vs lo hi).In L
theorem hasC_app {L M:List Cond} {c:Cond} (h:hasC L c=true):hasC (L++M) c=true:=by
 unfold hasC at h ⊢
 rw [List.any_append,h,Bool.true_or]
theorem In_app {L M:List Cond} (c:Cond):c.In L→c.In (L++M):=by
 induction c using Cond.ind with
 | h k ks p vs lo hi ih=>
  rintro ⟨h1,h2⟩
  exact .mk (fun h=>hasC_app (h1 h)) fun h x hx=>ih x hx (h2 h x hx)
theorem atss_grow:∀ (l:List Cond),(∀ c ∈ l,∀ out,(∃ M,c.ats out=out++M)∧c.In (c.ats out))→∀ out,(∃ M,Cond.atss l out=out++M)∧∀ c ∈ l,c.In (Cond.atss l out)
 | [],_,out=>by rw [atss_nil];exact ⟨⟨[],by simp⟩,by simp⟩
 | c::l,h,out=>by
  obtain ⟨⟨M,hM⟩,hc⟩:=h c (by simp) out
  obtain ⟨⟨M2,hM2⟩,hl⟩:=atss_grow l (fun x hx=>h x (by simp [hx])) (c.ats out)
  rw [atss_cons]
  refine ⟨⟨M++M2,by rw [hM2,hM,List.append_assoc]⟩,fun x hx => ?_⟩
  rcases List.mem_cons.1 hx with rfl|hx
  ·rw [hM2];exact In_app _ hc
  ·exact hl x hx
theorem same_refl (c:Cond):c.same c=true:=(Cond.same_iff c c).2 rfl
theorem hasC_self (L:List Cond) (c:Cond):hasC (L ++ [c]) c=true:=by
 unfold hasC
 rw [List.any_append,List.any_cons,same_refl,Bool.true_or,Bool.or_true]
/-- The atoms stand behind the others, and all are there. -/
theorem ats_grow (c:Cond):∀ out,(∃ M,c.ats out=out++M)∧c.In (c.ats out):=by
 induction c using Cond.ind with
 | h k ks p vs lo hi ih=>
  intro out
  rw [ats_mk]
  split
  ·rename_i ha
   split
   ·rename_i hh
    exact ⟨⟨[],by simp⟩,.mk (fun _=>hh) fun h=>by rw [ha] at h;cases h⟩
   ·exact ⟨⟨_,rfl⟩,.mk (fun _=>hasC_self _ _) fun h=>by rw [ha] at h;cases h⟩
  ·rename_i ha
   obtain ⟨h1,h2⟩:=atss_grow ks ih out
   exact ⟨h1,.mk (fun h=>absurd h ha) fun _=>h2⟩
theorem idxG_lt {α:Type} (q:α→Bool):∀ (l:List α) (k:Int),idxG q l k < k+l.length∨idxG q l k = -1
 | [],k=>.inr rfl
 | a::r,k=>by
  rw [idxG,List.length_cons]
  split
  ·exact .inl (by omega)
  ·rcases idxG_lt q r (k+1) with h|h
   ·exact .inl (by omega)
   ·exact .inr h
theorem num_lt {L:List Cond} {c:Cond} (h:hasC L c=true):0≤numC L c∧numC L c < L.length:=by
 have h1:decide (0≤numC L c)=hasC L c:=idxG_any (fun x:Cond=>x.same c) L 0 (by omega)
 rw [h] at h1
 have h1:=of_decide_eq_true h1
 rcases idxG_lt (fun x:Cond=>x.same c) L 0 with h2|h2
 ·exact ⟨h1,by unfold numC;omega⟩
 ·unfold numC at h1
  omega
theorem form_ok {n:Nat} {L:List Cond} (hL:L.length≤62) (c:Cond):c.Nice n→c.In L→(c.form L).Ok:=by
 induction c using Cond.ind with
 | h k ks p vs lo hi ih=>
  rintro ⟨_,_,_,_,hk,h4⟩ ⟨h1,h2⟩
  rw [form_mk]
  split
  ·rename_i ha
   obtain ⟨g1,g2,g3⟩:=atomK.1 ha
   obtain ⟨i1,i2⟩:=num_lt (h1 ha)
   exact .mk (fun h=>absurd h g3) (fun _ _ _=>⟨i1,by omega⟩) (by simp)
  ·rename_i ha
   have ha':isAtomB k=false:=by simpa using ha
   rw [forms_map]
   refine .mk (fun h=>by simp;exact hk (by omega)) (fun g1 g2 g3=>absurd (atomK.2 ⟨g1,g2,g3⟩) ha) fun x hx => ?_
   obtain ⟨y,hy,rfl⟩:=List.mem_map.1 hx
   exact ih y hy (h4 y hy) (h2 ha' y hy)
/-- All that a number of atoms can be: is b true whenever all of a are? -/
def follB (a:List Cond) (b:Cond) (L:List Cond):Bool:=(List.range (2 ^ L.length)).all fun s => !(a.all fun c=>c.tv L s) || b.tv L s
def tabF (f:Form) (many:Nat):List Bool:=(List.range (2 ^ many)).map fun s:Nat=>f.tv s
theorem two_pow_le {m:Nat} (h:m≤12):2 ^ m≤4096:=Nat.le_trans (Nat.pow_le_pow_right (by omega) h) (by decide)
end Go.Proofs.YtnlbekongmkmjaaGreatDoor
namespace Go.Proofs.YtnlbekongmkmjaaGreatDoor
set_option linter.unusedSimpArgs false
set_option linter.unusedVariables false
open Go.RowKit
set_option maxRecDepth 100000
theorem allE_congr {α:Type} {p q:α→Bool}:∀ l:List α,(∀ x ∈ l,p x=q x)→l.all p=l.all q
 | [],_=>rfl
 | a::l,h=>by rw [List.all_cons,List.all_cons,h a (by simp),allE_congr l fun x hx=>h x (by simp [hx])]
theorem anyE_congr {α:Type} {p q:α→Bool}:∀ l:List α,(∀ x ∈ l,p x=q x)→l.any p=l.any q
 | [],_=>rfl
 | a::l,h=>by rw [List.any_cons,List.any_cons,h a (by simp),anyE_congr l fun x hx=>h x (by simp [hx])]
def kidsP (p:Str) (t:List Br):List (List Br):=if p = [] then [t] else inside1 (partsAt 47 p) t
def textsP (p:Str) (t:List Br):List Str:=findTexts (wayN p).1.1 (wayN p).1.2.1 (wayN p).1.2.2.1 (wayN p).1.2.2.2 t
def leafL (k:Int) (vs:List Str) (lo hi:Int) (l:List Str):Bool:=
 if k=4 then decide (0 < (l.length:Int)) else if k=6 then !(decide ((l.length:Int) < lo) || decide (hi < l.length)) else if k=5 then l.any (fun s=>vs.contains s) else l.any fun s=>withinB s lo hi
mutual
/-- Does a condition hold of a tree? -/
def Cond.holds:Cond→List Br→Bool
 | .mk k ks p vs lo hi,t=>
  if k=1 then Cond.holdsA ks t else if k=2 then Cond.holdsO ks t else if k=3 then !Cond.holdsH ks t
  else if k=7 then (kidsP p t).all fun l=>Cond.holdsH ks l
  else if k=8 then (kidsP p t).any fun l=>Cond.holdsH ks l
  else leafL k vs lo hi (textsP p t)
def Cond.holdsA:List Cond→List Br→Bool
 | [],_=>true
 | c::l,t=>c.holds t && Cond.holdsA l t
def Cond.holdsO:List Cond→List Br→Bool
 | [],_=>false
 | c::l,t=>c.holds t || Cond.holdsO l t
def Cond.holdsH:List Cond→List Br→Bool
 | [],_=>false
 | c::_,t=>c.holds t
end
theorem holds_mk (k:Int) (ks:List Cond) (p:Str) (vs:List Str) (lo hi:Int) (t:List Br):(Cond.mk k ks p vs lo hi).holds t =
  if k=1 then Cond.holdsA ks t else if k=2 then Cond.holdsO ks t else if k=3 then !Cond.holdsH ks t
  else if k=7 then (kidsP p t).all fun l=>Cond.holdsH ks l
  else if k=8 then (kidsP p t).any fun l=>Cond.holdsH ks l
  else leafL k vs lo hi (textsP p t):=by rw [Cond.holds]
theorem holdsA_all (t:List Br):∀ l:List Cond,Cond.holdsA l t=l.all fun c=>c.holds t
 | []=>by rw [Cond.holdsA];rfl
 | c::l=>by rw [Cond.holdsA,holdsA_all t l,List.all_cons]
theorem holdsO_any (t:List Br):∀ l:List Cond,Cond.holdsO l t=l.any fun c=>c.holds t
 | []=>by rw [Cond.holdsO];rfl
 | c::l=>by rw [Cond.holdsO,holdsO_any t l,List.any_cons]
theorem holdsH_at {l:List Cond} {c:Cond} (h:l[0]?=some c) (t:List Br):Cond.holdsH l t=c.holds t:=by
 cases l with
 | nil=>cases h
 | cons a l=>rw [Cond.holdsH];simp at h;rw [h]
attribute [irreducible] Cond.holds Cond.holdsA Cond.holdsO Cond.holdsH
mutual
/-- What a condition is, if its atoms are as said. -/
def Cond.ev (v:Cond→Bool):Cond→Bool
 | .mk k ks p vs lo hi=>if k=1 then Cond.evA v ks else if k=2 then Cond.evO v ks else if k=3 then !Cond.evH v ks else v (.mk k ks p vs lo hi)
def Cond.evA (v:Cond→Bool):List Cond→Bool
 | []=>true
 | c::l=>c.ev v && Cond.evA v l
def Cond.evO (v:Cond→Bool):List Cond→Bool
 | []=>false
 | c::l=>c.ev v || Cond.evO v l
def Cond.evH (v:Cond→Bool):List Cond→Bool
 | []=>false
 | c::_=>c.ev v
end
theorem ev_mk (v:Cond→Bool) (k:Int) (ks:List Cond) (p:Str) (vs:List Str) (lo hi:Int):(Cond.mk k ks p vs lo hi).ev v=if k=1 then Cond.evA v ks else if k=2 then Cond.evO v ks else if k=3 then !Cond.evH v ks else v (.mk k ks p vs lo hi):=by rw [Cond.ev]
theorem evA_all (v:Cond→Bool):∀ l:List Cond,Cond.evA v l=l.all fun c=>c.ev v
 | []=>by rw [Cond.evA];rfl
 | c::l=>by rw [Cond.evA,evA_all v l,List.all_cons]
theorem evO_any (v:Cond→Bool):∀ l:List Cond,Cond.evO v l=l.any fun c=>c.ev v
 | []=>by rw [Cond.evO];rfl
 | c::l=>by rw [Cond.evO,evO_any v l,List.any_cons]
theorem evH_head (v:Cond→Bool) (l:List Cond):Cond.evH v l=match l with
  | []=>false
  | c::_=>c.ev v:=by
 cases l<;>rw [Cond.evH]
theorem ctvO_any (L:List Cond) (bits:Int):∀ l:List Cond,Cond.tvO L bits l=l.any fun f=>f.tv L bits
 | []=>by rw [ctvO_nil];rfl
 | f::l=>by rw [ctvO_cons,ctvO_any L bits l,List.any_cons]
theorem holdsH_head (t:List Br) (l:List Cond):Cond.holdsH l t=match l with
  | []=>false
  | c::_=>c.holds t:=by
 cases l
 ·unfold Cond.holdsH;rfl
 ·exact holdsH_at rfl t
attribute [irreducible] Cond.ev Cond.evA Cond.evO Cond.evH
theorem ev_holds (t:List Br) (c:Cond):c.ev (fun a=>a.holds t)=c.holds t:=by
 induction c using Cond.ind with
 | h k ks p vs lo hi ih=>
  have ha:∀ x ∈ ks,x.ev (fun a=>a.holds t)=x.holds t:=ih
  rw [ev_mk]
  split
  ·rename_i h1
   rw [holds_mk,if_pos h1,evA_all,holdsA_all]
   exact allE_congr ks ha
  ·rename_i h1
   split
   ·rename_i h2
    rw [holds_mk,if_neg h1,if_pos h2,evO_any,holdsO_any]
    exact anyE_congr ks ha
   ·rename_i h2
    split
    ·rename_i h3
     rw [holds_mk,if_neg h1,if_neg h2,if_pos h3,evH_head,holdsH_head]
     cases ks with
     | nil=>rfl
     | cons x l=>exact congrArg Bool.not (ha x (by simp))
    ·rfl
theorem numC_get {L:List Cond} {c:Cond} (h:hasC L c=true):L[(numC L c).toNat]?=some c:=by
 have key:∀ (l:List Cond) (k:Int),0≤k→0≤idxG (fun x:Cond=>x.same c) l k→k≤idxG (fun x:Cond=>x.same c) l k∧l[(idxG (fun x:Cond=>x.same c) l k - k).toNat]?=some c:=by
  intro l
  induction l with
  | nil=>intro k _ h;simp [idxG] at h
  | cons a r ih=>
   intro k hk h
   rw [idxG] at h ⊢
   split
   ·rename_i hs
    refine ⟨Int.le_refl _,?_⟩
    rw [Int.sub_self,(Cond.same_iff a c).1 hs]
    rfl
   ·rename_i hs
    rw [if_neg hs] at h
    obtain ⟨h1,h2⟩:=ih (k+1) (by omega) h
    refine ⟨by omega,?_⟩
    rw [show (idxG (fun x:Cond=>x.same c) r (k+1) - k).toNat=(idxG (fun x:Cond=>x.same c) r (k+1) - (k+1)).toNat+1 by omega,List.getElem?_cons_succ]
    exact h2
 have h1:=(num_lt h).1
 obtain ⟨_,h2⟩:=key L 0 (by omega) h1
 rw [Int.sub_zero] at h2
 exact h2
theorem tv_ev (L:List Cond) (bits:Int) (c:Cond):c.tv L bits=c.ev fun a=>bitZ (numC L a) bits:=by
 induction c using Cond.ind with
 | h k ks p vs lo hi ih=>
  rw [ctv_mk,ev_mk]
  split
  ·rw [ctvA_all,evA_all]
   exact allE_congr ks ih
  ·split
   ·rw [ctvO_any,evO_any]
    exact anyE_congr ks ih
   ·split
    ·rw [evH_head]
     cases ks with
     | nil=>unfold Cond.tvH;rfl
     | cons x l=>exact congrArg Bool.not ((ctvH_at (l:=x::l) rfl).trans (ih x (by simp)))
    ·rfl
/-- Only the atoms matter. -/
theorem ev_congr {L:List Cond} {v u:Cond→Bool} (h:∀ a,hasC L a=true→v a=u a) (c:Cond):c.In L→c.ev v=c.ev u:=by
 induction c using Cond.ind with
 | h k ks p vs lo hi ih=>
  rintro ⟨h1,h2⟩
  rw [ev_mk,ev_mk]
  by_cases ha:isAtomB k=true
  ·obtain ⟨g1,g2,g3⟩:=atomK.1 ha
   rw [if_neg g1,if_neg g2,if_neg g3,if_neg g1,if_neg g2,if_neg g3]
   exact h _ (h1 ha)
  ·have h2:=h2 (by simpa using ha)
   have hk:∀ x ∈ ks,x.ev v=x.ev u:=fun x hx=>ih x hx (h2 x hx)
   split
   ·rw [evA_all,evA_all];exact allE_congr ks hk
   ·split
    ·rw [evO_any,evO_any];exact anyE_congr ks hk
    ·split
     ·rw [evH_head,evH_head]
      cases ks with
      | nil=>rfl
      | cons x l=>exact congrArg Bool.not (hk x (by simp))
     ·rename_i g1 g2 g3
      exact absurd (atomK.2 ⟨g1,g2,g3⟩) ha
def bitsN:List Bool→Nat
 | []=>0
 | b::l=>(if b=true then 1 else 0)+2 * bitsN l
theorem bitsN_lt:∀ l:List Bool,bitsN l < 2 ^ l.length
 | []=>by simp [bitsN]
 | b::l=>by
  have:=bitsN_lt l
  rw [bitsN,List.length_cons,Nat.pow_succ]
  split<;>omega
theorem bitsN_bit:∀ (l:List Bool) (i:Nat) (b:Bool),l[i]?=some b→bitZ i (bitsN l)=b
 | [],_,_,h=>by simp at h
 | c::l,0,b,h=>by
  simp at h
  subst h
  unfold bitZ
  rw [bitsN]
  have e:((((if c=true then 1 else 0)+2 * bitsN l:Nat):Int) / 2 ^ ((0:Nat):Int).toNat) % 2=if c=true then 1 else 0:=by
   simp only [Int.toNat_natCast,Int.pow_zero,Int.ediv_one]
   split<;>omega
  rw [e]
  cases c<;>rfl
 | c::l,i+1,b,h=>by
  have ih:=bitsN_bit l i b (by simpa using h)
  rw [← ih]
  unfold bitZ
  rw [bitsN,Int.toNat_natCast,Int.toNat_natCast]
  have e:(((if c=true then 1 else 0)+2 * bitsN l:Nat):Int) / 2 ^ (i+1)=(bitsN l:Int) / 2 ^ i:=by
   rw [Int.pow_succ,Int.mul_comm,← Int.ediv_ediv_of_nonneg (by omega)]
   congr 1
   split<;>omega
  rw [e]
/-- For any atoms there is a number. -/
theorem bits_of (L:List Cond) (v:Cond→Bool):∃ s:Nat,s < 2 ^ L.length∧∀ a,hasC L a=true→bitZ (numC L a) s=v a:=by
 refine ⟨bitsN (L.map v),by simpa using bitsN_lt (L.map v),fun a ha => ?_⟩
 have h1:=(num_lt ha).1
 have h2:=bitsN_bit (L.map v) (numC L a).toNat (v a) (by rw [List.getElem?_map,numC_get ha];rfl)
 rw [Int.toNat_of_nonneg h1] at h2
 exact h2
theorem foll_iff {cs:List Cond} {b:Cond} {L:List Cond} (hc:∀ c ∈ cs,c.In L) (hb:b.In L):follB cs b L=true↔∀ v,(∀ c ∈ cs,c.ev v=true)→b.ev v=true:=by
 unfold follB
 rw [List.all_eq_true]
 constructor
 ·intro h v hv
  obtain ⟨s,hs,hb2⟩:=bits_of L v
  have h1:=h s (List.mem_range.2 hs)
  rw [Bool.or_eq_true,Bool.not_eq_true'] at h1
  rcases h1 with h1|h1
  ·exfalso
   rw [List.all_eq_false] at h1
   obtain ⟨c,hcm,hcv⟩:=h1
   rw [tv_ev,ev_congr hb2 c (hc c hcm)] at hcv
   exact hcv (hv c hcm)
  ·rw [tv_ev,ev_congr hb2 b hb] at h1
   exact h1
 ·intro h s _
  rw [Bool.or_eq_true,Bool.not_eq_true']
  by_cases ha:(cs.all fun c=>c.tv L s)=true
  ·right
   rw [tv_ev]
   refine h _ fun c hcm => ?_
   rw [← tv_ev]
   exact List.all_eq_true.1 ha c hcm
  ·left
   simpa using ha
end Go.Proofs.YtnlbekongmkmjaaGreatDoor
namespace Go.Proofs.YtnlbekongmkmjaaGreatDoor
set_option linter.unusedSimpArgs false
set_option linter.unusedVariables false
open Go.RowKit
set_option maxRecDepth 100000
set_option maxHeartbeats 2000000
theorem idx_str {l:List Str} {i:Int} {j:Nat} {s:Str} (h:l[j]?=some s) (hi:i=j):0≤i∧(l.map partR)[i.toNat]?=some [.str s]:=by
 subst hi
 exact ⟨by omega,by rw [Int.toNat_natCast,List.getElem?_map,h];rfl⟩
theorem idx_rep {l:List (List Str)} {i:Int} {j:Nat} {p:List Str} (h:l[j]?=some p) (hi:i=j):0≤i∧(l.map repR)[i.toNat]?=some [.sl 0 1 (p.map partR)]:=by
 subst hi
 exact ⟨by omega,by rw [Int.toNat_natCast,List.getElem?_map,h];rfl⟩
theorem idx_el {l:List El} {i:Int} {j:Nat} {e:El} (h:l[j]?=some e) (hi:i=j):0≤i∧(l.map elR)[i.toNat]?=some [.sl 0 1 (e.map repR)]:=by
 subst hi
 exact ⟨by omega,by rw [Int.toNat_natCast,List.getElem?_map,h];rfl⟩
theorem textFault_sem (s:Str) (hs:s.length≤9223372036854775807):Sem Tryz.prog 201 [.str s] (.int .i64 (textErr s)):=by
 have h:=isTextAny_sem s
 have hr:textErr s=if 1000 < s.length then 2 else if textB s=true then 0 else 3:=rfl
 generalize textErr s=r at hr ⊢
 generalize textB s=b at h hr
 refine sem_intro (M:=fun t=>mem t [1000044]) hT hM Tryz.func201 inferInstance rfl rfl rfl rfl rfl rfl ?_
 repeat' (
  (conv=>whnf)
  first
   | ((try ((with_reducible first|apply NumE.go|apply IdxE.go|apply TextE.go|apply LookE.go|apply CallE.go);(conv=>whnf)));(with_reducible apply SideD.mk);(focus (first|((try apply givesl);(focus (first|((apply gives_go (h));(focus (exact DLes.au));(focus exact rfl);(all_goals (exact pre)))|((apply gives_go (isText_sem _ _));(focus (exact DLes.au));(focus exact rfl);(all_goals (exact pre)))|((apply gives_go (isTextAny_sem _));(focus (exact DLes.au));(focus exact rfl);(all_goals (exact pre)))));(all_goals exact rfl))|exact side)))
   | ((with_reducible first|apply DrawR.go0|apply KerB.mk);(focus kernel_rfl))
   | (with_reducible first|apply ends_ret|apply ends_norm|apply Halt'.mk)
   | ((with_reducible apply CondD.mk)<;>intro hb<;>(try simp only [SPLT] at hb)<;>(try first|exact noB)))
 all_goals (try exact (false:Bool))
 ·rw [if_pos (by omega)] at hr
  subst hr
  repeat' ((conv=>whnf);first|exact endR|(with_reducible first|apply And.intro|apply endsO_ret|apply endsO_norm|apply DLes.cons))
  all_goals (conv=>whnf)
 ·subst hb
  rw [if_neg (by omega),if_neg (by simp)] at hr
  subst hr
  repeat' ((conv=>whnf);first|exact endR|(with_reducible first|apply And.intro|apply endsO_ret|apply endsO_norm|apply DLes.cons))
  all_goals (conv=>whnf)
 ·subst hb
  rw [if_neg (by omega),if_pos rfl] at hr
  subst hr
  repeat' ((conv=>whnf);first|exact endR|(with_reducible first|apply And.intro|apply endsO_ret|apply endsO_norm|apply DLes.cons))
  all_goals (conv=>whnf)
theorem elementFault_sem (e:El) (ht:∀ p ∈ e,∀ s ∈ p,s.length≤9223372036854775807):Sem Tryz.prog 169 [.agg [.sl 0 1 (e.map repR)]] (.int .i64 (elErr e)):=by
 refine sem_lenA 0 0 rfl rfl rfl fun hl => ?_
 rw [List.length_map] at hl
 have hll:(e.map repR).length=e.length:=List.length_map _
 have hr:elErr e=if e.length=0 then 9 else if 20 < e.length then 2 else repsErr e:=rfl
 generalize elErr e=r at hr ⊢
 refine sem_intro (M:=fun t=>mem t [1000044]) hT hM Tryz.func169 inferInstance rfl rfl rfl rfl rfl rfl ?_
 repeat' (
  (conv=>whnf)
  first
   | ((try ((with_reducible first|apply NumE.go|apply IdxE.go|apply TextE.go|apply LookE.go|apply CallE.go);(conv=>whnf)));(with_reducible apply SideD.mk);(focus (first|((try apply givesl);(focus (((apply gives_go (textFault_sem _ _));(focus (exact DLes.au));(focus exact rfl);(all_goals (exact pre)))));(all_goals exact rfl))|exact side)))
   | ((with_reducible first|apply DrawR.go0|apply KerB.mk);(focus kernel_rfl))
   | (with_reducible first|apply ends_ret|apply ends_norm|apply Halt'.mk)
   | ((with_reducible apply CondD.mk)<;>intro hb<;>(try simp only [SPLT] at hb)<;>(try first|exact noB)))
 all_goals (try exact (false:Bool))
 ·rw [if_pos (by simpa using hb)] at hr
  subst hr
  repeat' ((conv=>whnf);first|exact endR|(with_reducible first|apply And.intro|apply endsO_ret|apply endsO_norm|apply DLes.cons))
  all_goals (conv=>whnf)
 ·rw [if_neg (by omega),if_pos (by omega)] at hr
  subst hr
  repeat' ((conv=>whnf);first|exact endR|(with_reducible first|apply And.intro|apply endsO_ret|apply endsO_norm|apply DLes.cons))
  all_goals (conv=>whnf)
 ·rw [if_neg (by omega),if_neg (by omega)] at hr
  refine loop_go (M:=fun t=>mem t [1000044]) hT hM (fun i:Nat => [(19,.int .i64 i)]) (fun i=>i≤e.length∧repsErr (e.drop i)=r) (fun i=>e.length - i) (0) ?_ ?_ ?_
  ·(conv=>whnf)
   refine ⟨?_,by rfl⟩
   repeat' ((conv=>whnf);first|exact endF|exact endF2|with_reducible apply DLes.cons)
  ·exact ⟨Nat.zero_le _,hr.symm⟩
  ·rintro i ⟨hi,hv⟩
   cases hx:e[i]? with
   | none=>
    have hm:=List.getElem?_eq_none_iff.1 hx
    rw [List.drop_of_length_le hm] at hv
    subst hv
    repeat' (
     (conv=>whnf)
     first
      | ((try ((with_reducible first|apply NumE.go|apply IdxE.go|apply TextE.go|apply LookE.go|apply CallE.go);(conv=>whnf)));(with_reducible apply SideD.mk);(focus (first|((try apply givesl);(focus (((apply gives_go (textFault_sem _ _));(focus (exact DLes.au));(focus exact rfl);(all_goals (exact pre)))));(all_goals exact rfl))|exact side)))
      | ((with_reducible first|apply DrawR.go0|apply KerB.mk);(focus kernel_rfl))
      | (with_reducible first|apply ends_ret|apply ends_norm|apply Halt'.mk)
      | ((with_reducible apply CondD.mk)<;>intro hb<;>(try simp only [SPLT] at hb)<;>(try first|exact noB)))
    all_goals (try exact (false:Bool))
    repeat' ((conv=>whnf);first|exact endR|(with_reducible first|apply And.intro|apply endsO_ret|apply endsO_norm|apply DLes.cons))
    all_goals (conv=>whnf)
   | some p=>
    have hlt:=(List.getElem?_eq_some_iff.1 hx).1
    have htp:=ht p (List.mem_of_getElem? hx)
    rw [repsErr_at hx] at hv
    have hpl:(p.map partR).length=p.length:=List.length_map _
    repeat' (
     (conv=>whnf)
     first
      | ((try ((with_reducible first|apply NumE.go|apply IdxE.go|apply TextE.go|apply LookE.go|apply CallE.go);(conv=>whnf)));(with_reducible apply SideD.mk);(focus (first|(exact idx_rep hx rfl)|((try apply givesl);(focus (((apply gives_go (textFault_sem _ _));(focus (exact DLes.au));(focus exact rfl);(all_goals (exact pre)))));(all_goals exact rfl))|exact side)))
      | ((with_reducible first|apply DrawR.go0|apply KerB.mk);(focus kernel_rfl))
      | (with_reducible first|apply ends_ret|apply ends_norm|apply Halt'.mk)
      | ((with_reducible apply CondD.mk)<;>intro hb<;>(try simp only [SPLT] at hb)<;>(try first|exact noB)))
    all_goals (try exact (false:Bool))
    ·rw [if_pos (by simpa using hb)] at hv
     subst hv
     repeat' ((conv=>whnf);first|exact endR|(with_reducible first|apply And.intro|apply endsO_ret|apply endsO_norm|apply DLes.cons))
     all_goals (conv=>whnf)
    ·rw [if_neg (by omega),if_pos (by omega)] at hv
     subst hv
     repeat' ((conv=>whnf);first|exact endR|(with_reducible first|apply And.intro|apply endsO_ret|apply endsO_norm|apply DLes.cons))
     all_goals (conv=>whnf)
    ·rw [if_neg (by omega),if_neg (by omega)] at hv
     generalize hrest:repsErr (e.drop (i+1))=rest at hv
     refine loop_go (M:=fun t=>mem t [1000044]) hT hM (fun k:Nat => [(31,.int .i64 k)]) (fun k=>k≤p.length∧(if partsErr (p.drop k) ≠ 0 then partsErr (p.drop k) else rest)=r) (fun k=>p.length - k) (0) ?_ ?_ ?_
     ·(conv=>whnf)
      refine ⟨?_,by rfl⟩
      repeat' ((conv=>whnf);first|exact endF|exact endF2|with_reducible apply DLes.cons)
     ·exact ⟨Nat.zero_le _,by simpa using hv⟩
     ·rintro k ⟨hk,hw⟩
      cases hy:p[k]? with
      | none=>
       have hm:=List.getElem?_eq_none_iff.1 hy
       rw [List.drop_of_length_le hm,if_neg (by simp [partsErr])] at hw
       subst hw
       repeat' (
        (conv=>whnf)
        first
         | ((try ((with_reducible first|apply NumE.go|apply IdxE.go|apply TextE.go|apply LookE.go|apply CallE.go);(conv=>whnf)));(with_reducible apply SideD.mk);(focus (first|((try apply givesl);(focus (((apply gives_go (textFault_sem _ _));(focus (exact DLes.au));(focus exact rfl);(all_goals (exact pre)))));(all_goals exact rfl))|exact side)))
         | ((with_reducible first|apply DrawR.go0|apply KerB.mk);(focus kernel_rfl))
         | (with_reducible first|apply ends_ret|apply ends_norm|apply Halt'.mk)
         | ((with_reducible apply CondD.mk)<;>intro hb<;>(try simp only [SPLT] at hb)<;>(try first|exact noB)))
       all_goals (try exact (false:Bool))
       refine ⟨i+1,⟨by omega,hrest⟩,by omega,?_⟩
       (conv=>whnf)
       refine ⟨?_,by rfl⟩
       repeat' ((conv=>whnf);first|exact endF|exact endF2|with_reducible apply DLes.cons)
      | some s=>
       have hlk:=(List.getElem?_eq_some_iff.1 hy).1
       have hs:=textFault_sem s (htp s (List.mem_of_getElem? hy))
       rw [partsErr_at hy] at hw
       generalize textErr s=te at hs hw
       repeat' (
        (conv=>whnf)
        first
         | ((try ((with_reducible first|apply NumE.go|apply IdxE.go|apply TextE.go|apply LookE.go|apply CallE.go);(conv=>whnf)));(with_reducible apply SideD.mk);(focus (first|(exact idx_str hy rfl)|((try apply givesl);(focus (first|((apply gives_go (hs));(focus (exact DLes.au));(focus exact rfl);(all_goals (exact pre)))|((apply gives_go (textFault_sem _ _));(focus (exact DLes.au));(focus exact rfl);(all_goals (exact pre)))));(all_goals exact rfl))|exact side)))
         | ((with_reducible first|apply DrawR.go0|apply KerB.mk);(focus kernel_rfl))
         | (with_reducible first|apply ends_ret|apply ends_norm|apply Halt'.mk)
         | ((with_reducible apply CondD.mk)<;>intro hb<;>(try simp only [SPLT] at hb)<;>(try first|exact noB)))
       all_goals (try exact (false:Bool))
       ·rw [if_pos hb,if_pos hb] at hw
        subst hw
        repeat' ((conv=>whnf);first|exact endR|(with_reducible first|apply And.intro|apply endsO_ret|apply endsO_norm|apply DLes.cons))
        all_goals (conv=>whnf)
       ·subst hb
        simp only [ne_eq,not_true_eq_false,ite_false] at hw
        refine ⟨k+1,⟨by omega,hw⟩,by omega,?_⟩
        (conv=>whnf)
        refine ⟨?_,by rfl⟩
        repeat' ((conv=>whnf);first|exact endF|exact endF2|with_reducible apply DLes.cons)
theorem checkSegs_sem (t:Str) (els:List El) (htl:t.length≤9223372036854775807) (ht:∀ e ∈ els,∀ p ∈ e,∀ s ∈ p,s.length≤9223372036854775807):Sem Tryz.prog 131 [.sl 0 2 [[.str t,.sl 0 1 (els.map elR)]]] (.int .i64 (segErr t els)):=by
 have h1:=isTag_sem t htl
 have hll:(els.map elR).length=els.length:=List.length_map _
 have hr:segErr t els=if isTagB t=false then 5 else if 50 < els.length then 2 else segElErr els:=rfl
 generalize segErr t els=r at hr ⊢
 generalize isTagB t=tb at h1 hr
 refine sem_intro (M:=fun t=>mem t [1000044]) hT hM Tryz.func131 inferInstance rfl rfl rfl rfl rfl rfl ?_
 repeat' (
  (conv=>whnf)
  first
   | ((try ((with_reducible first|apply NumE.go|apply IdxE.go|apply TextE.go|apply LookE.go|apply CallE.go);(conv=>whnf)));(with_reducible apply SideD.mk);(focus (first|((try apply givesl);(focus (((first|apply gives_go (isTag_sem _ _)|apply gives_go (elementFault_sem _ _));(focus (exact DLes.au));(focus exact rfl);(all_goals (exact pre)))));(all_goals exact rfl))|exact side)))
   | ((with_reducible first|apply DrawR.go0|apply KerB.mk);(focus kernel_rfl))
   | (with_reducible first|apply ends_ret|apply ends_norm|apply Halt'.mk)
   | ((with_reducible apply CondD.mk)<;>intro hb<;>(try simp only [SPLT] at hb)<;>(try first|exact noB)))
 all_goals (try exact (false:Bool))
 refine loop_go (M:=fun t=>mem t [1000044]) hT hM (fun i:Nat => [(13,.int .i64 i)]) (fun i=>i=0∨(i=1∧r=0)) (fun i=>2 - i) (0) ?_ ?_ ?_
 ·(conv=>whnf)
  refine ⟨?_,by rfl⟩
  repeat' ((conv=>whnf);first|exact endF|exact endF2|with_reducible apply DLes.cons)
 ·exact .inl rfl
 ·rintro i (rfl|⟨rfl,hr0⟩)
  ·repeat' (
    (conv=>whnf)
    first
     | ((try ((with_reducible first|apply NumE.go|apply IdxE.go|apply TextE.go|apply LookE.go|apply CallE.go);(conv=>whnf)));(with_reducible apply SideD.mk);(focus (first|(exact ⟨by decide,rfl⟩)|((try apply givesl);(focus (first|((apply gives_go (h1));(focus (exact DLes.au));(focus exact rfl);(all_goals (exact pre)))|((first|apply gives_go (isTag_sem _ _)|apply gives_go (elementFault_sem _ _));(focus (exact DLes.au));(focus exact rfl);(all_goals (exact pre)))));(all_goals exact rfl))|exact side)))
     | ((with_reducible first|apply DrawR.go0|apply KerB.mk);(focus kernel_rfl))
     | (with_reducible first|apply ends_ret|apply ends_norm|apply Halt'.mk)
     | ((with_reducible apply CondD.mk)<;>intro hb<;>(try simp only [SPLT] at hb)<;>(try first|exact noB)))
   all_goals (try exact (false:Bool))
   ·rw [if_pos (by simpa using hb)] at hr
    subst hr
    repeat' ((conv=>whnf);first|exact endR|(with_reducible first|apply And.intro|apply endsO_ret|apply endsO_norm|apply DLes.cons))
    all_goals (conv=>whnf)
   ·rw [if_neg (by simp_all),if_pos (by omega)] at hr
    subst hr
    repeat' ((conv=>whnf);first|exact endR|(with_reducible first|apply And.intro|apply endsO_ret|apply endsO_norm|apply DLes.cons))
    all_goals (conv=>whnf)
   ·rw [if_neg (by simp_all),if_neg (by omega)] at hr
    refine loop_go (M:=fun t=>mem t [1000044]) hT hM (fun i:Nat => [(28,.int .i64 i)]) (fun i=>i≤els.length∧segElErr (els.drop i)=r) (fun i=>els.length - i) (0) ?_ ?_ ?_
    ·(conv=>whnf)
     refine ⟨?_,by rfl⟩
     repeat' ((conv=>whnf);first|exact endF|exact endF2|with_reducible apply DLes.cons)
    ·exact ⟨Nat.zero_le _,hr.symm⟩
    ·rintro i ⟨hi,hv⟩
     cases hx:els[i]? with
     | none=>
      have hm:=List.getElem?_eq_none_iff.1 hx
      rw [List.drop_of_length_le hm] at hv
      repeat' (
       (conv=>whnf)
       first
        | ((try ((with_reducible first|apply NumE.go|apply IdxE.go|apply TextE.go|apply LookE.go|apply CallE.go);(conv=>whnf)));(with_reducible apply SideD.mk);(focus (first|((try apply givesl);(focus (((first|apply gives_go (isTag_sem _ _)|apply gives_go (elementFault_sem _ _));(focus (exact DLes.au));(focus exact rfl);(all_goals (exact pre)))));(all_goals exact rfl))|exact side)))
        | ((with_reducible first|apply DrawR.go0|apply KerB.mk);(focus kernel_rfl))
        | (with_reducible first|apply ends_ret|apply ends_norm|apply Halt'.mk)
        | ((with_reducible apply CondD.mk)<;>intro hb<;>(try simp only [SPLT] at hb)<;>(try first|exact noB)))
      all_goals (try exact (false:Bool))
      refine ⟨1,.inr ⟨rfl,hv.symm⟩,by omega,?_⟩
      (conv=>whnf)
      refine ⟨?_,by rfl⟩
      repeat' ((conv=>whnf);first|exact endF|exact endF2|with_reducible apply DLes.cons)
     | some e=>
      have hlt:=(List.getElem?_eq_some_iff.1 hx).1
      have h2:=elementFault_sem e (ht e (List.mem_of_getElem? hx))
      rw [segElErr_at hx] at hv
      generalize elErr e=ee at h2 hv
      repeat' (
       (conv=>whnf)
       first
        | ((try ((with_reducible first|apply NumE.go|apply IdxE.go|apply TextE.go|apply LookE.go|apply CallE.go);(conv=>whnf)));(with_reducible apply SideD.mk);(focus (first|(exact idx_el hx rfl)|((try apply givesl);(focus (first|((apply gives_go (h2));(focus (exact DLes.au));(focus exact rfl);(all_goals (exact pre)))|((first|apply gives_go (isTag_sem _ _)|apply gives_go (elementFault_sem _ _));(focus (exact DLes.au));(focus exact rfl);(all_goals (exact pre)))));(all_goals exact rfl))|exact side)))
        | ((with_reducible first|apply DrawR.go0|apply KerB.mk);(focus kernel_rfl))
        | (with_reducible first|apply ends_ret|apply ends_norm|apply Halt'.mk)
        | ((with_reducible apply CondD.mk)<;>intro hb<;>(try simp only [SPLT] at hb)<;>(try first|exact noB)))
      all_goals (try exact (false:Bool))
      ·rw [if_pos hb] at hv
       subst hv
       repeat' ((conv=>whnf);first|exact endR|(with_reducible first|apply And.intro|apply endsO_ret|apply endsO_norm|apply DLes.cons))
       all_goals (conv=>whnf)
      ·rw [if_neg (by simpa using hb)] at hv
       refine ⟨i+1,⟨by omega,hv⟩,by omega,?_⟩
       (conv=>whnf)
       refine ⟨?_,by rfl⟩
       repeat' ((conv=>whnf);first|exact endF|exact endF2|with_reducible apply DLes.cons)
  ·subst hr0
   repeat' (
    (conv=>whnf)
    first
     | ((try ((with_reducible first|apply NumE.go|apply IdxE.go|apply TextE.go|apply LookE.go|apply CallE.go);(conv=>whnf)));(with_reducible apply SideD.mk);(focus (first|((try apply givesl);(focus (((first|apply gives_go (isTag_sem _ _)|apply gives_go (elementFault_sem _ _));(focus (exact DLes.au));(focus exact rfl);(all_goals (exact pre)))));(all_goals exact rfl))|exact side)))
     | ((with_reducible first|apply DrawR.go0|apply KerB.mk);(focus kernel_rfl))
     | (with_reducible first|apply ends_ret|apply ends_norm|apply Halt'.mk)
     | ((with_reducible apply CondD.mk)<;>intro hb<;>(try simp only [SPLT] at hb)<;>(try first|exact noB)))
   all_goals (try exact (false:Bool))
   repeat' ((conv=>whnf);first|exact endR|(with_reducible first|apply And.intro|apply endsO_ret|apply endsO_norm|apply DLes.cons))
   all_goals (conv=>whnf)
theorem isZero_sem (t:Str) (rows:List (List D)):Sem Tryz.prog 130 [.agg [.str t,.sl 0 1 rows]] (.bool (t == [] && ((rows.length:Int) == 0))):=by
 refine sem_intro (M:=fun t=>mem t [1000044]) hT hM Tryz.func130 inferInstance rfl rfl rfl rfl rfl rfl ?_
 repeat' (
  (conv=>whnf)
  first
   | ((try ((with_reducible first|apply NumE.go|apply IdxE.go|apply TextE.go|apply LookE.go|apply CallE.go);(conv=>whnf)));(with_reducible apply SideD.mk);(focus ((first|(intro hc;have hc0:=hc;(try simp only [SPLT] at hc);(try refine And.intro (by first|exact hc0|exact ⟨hc0,hc0⟩|exact ⟨hc0,hc0,hc0⟩) ?_))|skip);first|exact sideG)))
   | ((with_reducible first|apply DrawR.go0|apply KerB.mk);(focus kernel_rfl))
   | (with_reducible first|apply ends_ret|apply ends_norm|apply Halt'.mk)
   | ((with_reducible apply CondD.mk)<;>intro hb<;>(try simp only [SPLT] at hb)<;>(try first|exact noB)))
 all_goals (try exact (false:Bool))
 repeat' ((conv=>whnf);first|exact endR|(with_reducible first|apply And.intro|apply endsO_ret|apply endsO_norm|apply DLes.cons))
 all_goals (conv=>whnf)
end Go.Proofs.YtnlbekongmkmjaaGreatDoor
namespace Go.Proofs.YtnlbekongmkmjaaGreatDoor
set_option linter.unusedSimpArgs false
set_option linter.unusedVariables false
open Go.RowKit
set_option maxRecDepth 100000
set_option maxHeartbeats 4000000
theorem bchks_bd {d:Int}:∀ (l:List Br),(∀ c ∈ l,∀ n,n≤2000→n≤(c.chk d n).1∧((c.chk d n).2=0→(c.chk d n).1≤2000))→∀ n,n≤2000→n≤(Br.chks d n l).1∧((Br.chks d n l).2=0→(Br.chks d n l).1≤2000)
 | [],_,n,h=>by rw [bchks_nil];exact ⟨Int.le_refl _,fun _=>h⟩
 | c::l,hc,n,h=>by
  obtain ⟨h1,h2⟩:=hc c (by simp) n h
  have hat:=bchks_at (l:=c::l) (i:=0) (b:=c) (deep:=d) (many:=n) rfl
  rw [List.drop_zero] at hat
  rw [hat]
  by_cases he:(c.chk d n).2=0
  ·rw [if_neg (by simp [he])]
   obtain ⟨h3,h4⟩:=bchks_bd l (fun x hx=>hc x (by simp [hx])) _ (h2 he)
   rw [show List.drop (0+1) (c::l)=l from rfl]
   exact ⟨by omega,h4⟩
  ·rw [if_pos he]
   exact ⟨by omega,fun e=>absurd e he⟩
/-- The segments that were counted are not too many. -/
theorem bchk_bd (b:Br):∀ d n:Int,n≤2000→n≤(b.chk d n).1∧((b.chk d n).2=0→(b.chk d n).1≤2000):=by
 induction b using Br.ind with
 | h nm t els ks ih=>
  intro d n hn
  have hp:n≤pathMany nm n∧pathMany nm n≤n+1:=by unfold pathMany;split<;>omega
  rw [bchk_mk]
  split
  ·exact ⟨hp.1,fun e=>by cases e⟩
  ·rename_i h1
   split
   ·exact ⟨hp.1,fun e=>by cases e⟩
   ·split
    ·exact ⟨hp.1,fun e=>by cases e⟩
    ·split
     ·exact ⟨hp.1,fun e=>by cases e⟩
     ·split
      ·exact ⟨hp.1,fun _=>by dsimp only;omega⟩
      ·obtain ⟨h2,h3⟩:=bchks_bd (d:=d+1) ks (fun c hc n hn=>ih c hc (d+1) n hn) (pathMany nm n) (by omega)
       exact ⟨by omega,h3⟩
theorem branchL_sem (l:List Br) (d n:Int) (hd0:0≤d) (hd:d≤1000) (hn0:0≤n) (hn:n≤2000) (hl:l.length≤9223372036854775807) (ih:∀ x ∈ l,∀ m:Int,0≤m→m≤2000→SemO Tryz.prog 84 (.obj [.int .i64 m]) [.agg x.row,.int .i64 d] (.int .i64 (x.chk d m).2) (some (.obj [.int .i64 (x.chk d m).1]))):SemO Tryz.prog 45 (.obj [.int .i64 n]) [.sl 0 4 (l.map Br.row),.int .i64 d] (.int .i64 (Br.chks d n l).2) (some (.obj [.int .i64 (Br.chks d n l).1])):=by
 have hll:(l.map Br.row).length=l.length:=List.length_map _
 generalize hr:Br.chks d n l=r
 refine semO_intro (M:=fun t=>mem t [0,8,1000044,1000045,1000084]) hT hM Tryz.func45 inferInstance rfl rfl rfl rfl rfl rfl rfl rfl rfl ?_
 repeat' (
  (conv=>whnf)
  first
   | ((try ((with_reducible first|apply NumE.go|apply IdxE.go|apply TextE.go|apply LookE.go|apply CallE.go);(conv=>whnf)));(with_reducible apply SideD.mk);(focus (first|exact side)))
   | ((with_reducible apply CallO.go);(conv=>whnf);(with_reducible apply SideD.mk);(focus (first|((apply giveso_go (branchO_sem _ _ _ _ _ _ _ _));(focus (first|exact rfl|(simp;done)));(focus (exact DLes.au));(focus exact rfl);(all_goals (exact pre))))))
   | ((with_reducible first|apply DrawR.go0|apply KerB.mk);(focus kernel_rfl))
   | (with_reducible first|apply ends_ret|apply ends_norm|apply Halt'.mk)
   | ((with_reducible apply CondD.mk)<;>intro hb<;>(try simp only [SPLT] at hb)<;>(try first|exact noB)))
 all_goals (try exact (false:Bool))
 refine loop_go (M:=fun t=>mem t [0,8,1000044,1000045,1000084]) hT hM (fun x:Nat × Int => [(12,.int .i64 x.1),(0,.obj [.int .i64 x.2])]) (fun x=>x.1≤l.length∧0≤x.2∧x.2≤2000∧Br.chks d x.2 (l.drop x.1)=r) (fun x=>l.length - x.1) ((0,n)) ?_ ?_ ?_
 ·(conv=>whnf)
  refine ⟨?_,by rfl⟩
  repeat' ((conv=>whnf);first|exact endF|exact endF2|with_reducible apply DLes.cons)
 ·exact ⟨Nat.zero_le _,hn0,hn,hr⟩
 ·rintro ⟨i,m⟩ ⟨hi,hm1,hm2,hv⟩
  dsimp only at hi hm1 hm2 hv ⊢
  cases hx:l[i]? with
  | none=>
   have hm:=List.getElem?_eq_none_iff.1 hx
   rw [List.drop_of_length_le hm,bchks_nil] at hv
   subst hv
   repeat' (
    (conv=>whnf)
    first
     | ((try ((with_reducible first|apply NumE.go|apply IdxE.go|apply TextE.go|apply LookE.go|apply CallE.go);(conv=>whnf)));(with_reducible apply SideD.mk);(focus (first|exact side)))
     | ((with_reducible apply CallO.go);(conv=>whnf);(with_reducible apply SideD.mk);(focus (first|((apply giveso_go (branchO_sem _ _ _ _ _ _ _ _));(focus (first|exact rfl|(simp;done)));(focus (exact DLes.au));(focus exact rfl);(all_goals (exact pre))))))
     | ((with_reducible first|apply DrawR.go0|apply KerB.mk);(focus kernel_rfl))
     | (with_reducible first|apply ends_ret|apply ends_norm|apply Halt'.mk)
     | ((with_reducible apply CondD.mk)<;>intro hb<;>(try simp only [SPLT] at hb)<;>(try first|exact noB)))
   all_goals (try exact (false:Bool))
   repeat' ((conv=>whnf);first|exact endR|(with_reducible first|apply And.intro|apply endsO_ret|apply endsO_norm|apply DLes.cons))
   all_goals (conv=>whnf)
  | some x=>
   have hlt:=(List.getElem?_eq_some_iff.1 hx).1
   obtain ⟨hb1,hb2⟩:=bchk_bd x d m hm2
   have ih':=ih x (List.mem_of_getElem? hx) m hm1 hm2
   rw [bchks_at hx] at hv
   generalize x.chk d m=y at hv ih' hb1 hb2
   obtain ⟨m2,e2⟩:=y
   obtain ⟨n1,t1,els1,ks1⟩:=x
   rw [Br.row_mk] at ih'
   dsimp only at hv ih' hb1 hb2
   repeat' (
    (conv=>whnf)
    first
     | ((try ((with_reducible first|apply NumE.go|apply IdxE.go|apply TextE.go|apply LookE.go|apply CallE.go);(conv=>whnf)));(with_reducible apply SideD.mk);(focus (first|(exact idx_br hx rfl)|exact side)))
     | ((with_reducible apply CallO.go);(conv=>whnf);(with_reducible apply SideD.mk);(focus (first|((apply giveso_go (ih'));(focus (first|exact rfl|(simp;done)));(focus (exact DLes.au));(focus exact rfl);(all_goals (exact pre))))))
     | ((with_reducible first|apply DrawR.go0|apply KerB.mk);(focus kernel_rfl))
     | (with_reducible first|apply ends_ret|apply ends_norm|apply Halt'.mk)
     | ((with_reducible apply CondD.mk)<;>intro hb<;>(try simp only [SPLT] at hb)<;>(try first|exact noB)))
   all_goals (try exact (false:Bool))
   ·rw [if_pos (by omega)] at hv
    subst hv
    repeat' ((conv=>whnf);first|exact endR|(with_reducible first|apply And.intro|apply endsO_ret|apply endsO_norm|apply DLes.cons))
    all_goals (conv=>whnf)
   ·rw [if_neg (by omega)] at hv
    refine ⟨(i+1,m2),⟨by dsimp only;omega,by dsimp only;omega,by dsimp only;omega,hv⟩,by dsimp only;omega,?_⟩
    (conv=>whnf)
    refine ⟨?_,by rfl⟩
    repeat' ((conv=>whnf);first|exact endF|exact endF2|with_reducible apply DLes.cons)
theorem branch_sem (b:Br):b.Txt→∀ d n:Int,0≤n→n≤2000→0≤d→d≤1000→SemO Tryz.prog 84 (.obj [.int .i64 n]) [.agg b.row,.int .i64 d] (.int .i64 (b.chk d n).2) (some (.obj [.int .i64 (b.chk d n).1])):=by
 induction b using Br.ind with
 | h nm t els ks ih=>
  rintro ⟨t1,t2,t3,t4,t5⟩ d n hn0 hn hd0 hd
  have h1:=isName_sem nm t1
  have h2:=isZero_sem t (els.map elR)
  have h3:=checkSegs_sem t els t2 t3
  have hll:(ks.map Br.row).length=ks.length:=List.length_map _
  have hel:(els.map elR).length=els.length:=List.length_map _
  rw [hel] at h2
  rw [bchk_mk,Br.row_mk]
  by_cases hnm:nm = []
  ·subst hnm
   have hp:pathMany [] n=n+1:=if_pos rfl
   rw [hp]
   generalize segErr t els=se at h3 ⊢
   generalize hr:(if 2000 < n+1∨6 < d then (n+1,(2:Int)) else if ([]:Str) ≠ []∧isNameB []=false then (n+1,5) else if ([]:Str) = []∧0 < ks.length then (n+1,3) else if ([]:Str) ≠ []∧(¬ (t = []∧els.length=0)∨ks.length=0∨headNamed ks=true) then (n+1,3) else if ([]:Str) = [] then (n+1,se) else Br.chks (d+1) (n+1) ks)=r
   refine semO_intro (M:=fun t=>mem t [0,1000044,1000045,1000084]) hT hM Tryz.func84 inferInstance rfl rfl rfl rfl rfl rfl rfl rfl rfl ?_
   repeat' (
    (conv=>whnf)
    first
     | ((try ((with_reducible first|apply NumE.go|apply IdxE.go|apply TextE.go|apply LookE.go|apply CallE.go);(conv=>whnf)));(with_reducible apply SideD.mk);(focus ((first|(intro hc;have hc0:=hc;(try simp only [SPLT] at hc);(try refine And.intro (by first|exact hc0|exact ⟨hc0,hc0⟩|exact ⟨hc0,hc0,hc0⟩) ?_))|skip);first|(exact show 0≤_∧_=some [D.str [],D.str [],D.sl 0 1 [],D.sl 0 4 []] from absurd hc0 (by simp))|((try apply givesl);(focus (first|((apply gives_go (h3));(focus (exact DLes.au));(focus exact rfl);(all_goals (exact pre)))|((first|apply gives_go (isName_sem _ _)|apply gives_go (isZero_sem _ _)|apply gives_go (checkSegs_sem _ _ _ _));(focus (exact DLes.au));(focus exact rfl);(all_goals (exact pre)))));(all_goals exact rfl))|exact sideG)))
     | ((with_reducible apply CallO.go);(conv=>whnf);(with_reducible apply SideD.mk);(focus (first|((apply giveso_go (branchL_sem _ _ _ _ _ _ _ _ _));(focus (first|exact rfl|(simp;done)));(focus (exact DLes.au));(focus exact rfl);(all_goals (exact pre))))))
     | ((with_reducible first|apply DrawR.go0|apply KerB.mk);(focus kernel_rfl))
     | (with_reducible first|apply ends_ret|apply ends_norm|apply Halt'.mk)
     | ((with_reducible apply CondD.mk)<;>intro hb<;>(try simp only [SPLT] at hb)<;>(try first|exact noB)))
   all_goals (try exact (false:Bool))
   ·rw [if_pos hb] at hr
    subst hr
    repeat' ((conv=>whnf);first|exact endR|(with_reducible first|apply And.intro|apply endsO_ret|apply endsO_norm|apply DLes.cons))
    all_goals (conv=>whnf)
   ·rw [if_neg (by omega),if_neg (by simp),if_pos ⟨rfl,by omega⟩] at hr
    subst hr
    repeat' ((conv=>whnf);first|exact endR|(with_reducible first|apply And.intro|apply endsO_ret|apply endsO_norm|apply DLes.cons))
    all_goals (conv=>whnf)
   ·rename_i g1 g2 g3 g4 g5
    rw [if_neg (by omega),if_neg (by simp),if_neg (fun h=>by have:=h.2;rcases g4 with g|g;exact g trivial;omega),if_neg (by simp),if_pos rfl] at hr
    subst hr
    repeat' ((conv=>whnf);first|exact endR|(with_reducible first|apply And.intro|apply endsO_ret|apply endsO_norm|apply DLes.cons))
    all_goals (conv=>whnf)
  ·have hp:pathMany nm n=n:=if_neg hnm
   rw [hp]
   obtain ⟨y,hy⟩:∃ y:Br,0 < ks.length→ks[0]?=some y:=⟨ks[0]?.getD (.mk [] [] [] []),fun h=>by rw [List.getElem?_eq_getElem h];rfl⟩
   have h4:d≤6→SemO Tryz.prog 45 (.obj [.int .i64 n]) [.sl 0 4 (ks.map Br.row),.int .i64 (d+1)] (.int .i64 (Br.chks (d+1) n ks).2) (some (.obj [.int .i64 (Br.chks (d+1) n ks).1])):=fun h=>
    branchL_sem ks (d+1) n (by omega) (by omega) hn0 hn t5 fun x hx m m0 m1=>ih x hx (t4 x hx) (d+1) m m0 m1 (by omega) (by omega)
   generalize isNameB nm=nb at h1 ⊢
   generalize Br.chks (d+1) n ks=ck at h4 ⊢
   generalize hr:(if 2000 < n∨6 < d then (n,(2:Int)) else if nm ≠ []∧nb=false then (n,5) else if nm = []∧0 < ks.length then (n,3) else if nm ≠ []∧(¬ (t = []∧els.length=0)∨ks.length=0∨headNamed ks=true) then (n,3) else if nm = [] then (n,segErr t els) else ck)=r
   obtain ⟨yn,yt,ye,yk⟩:=y
   have hnh:ks.length ≠ 0→headNamed ks=(yn != []):=fun h=>by
    cases ks with
    | nil=>exact absurd rfl h
    | cons z l=>
     have hz:=hy (by simp)
     simp at hz
     subst hz
     rfl
   refine semO_intro (M:=fun t=>mem t [0,1000044,1000045,1000084]) hT hM Tryz.func84 inferInstance rfl rfl rfl rfl rfl rfl rfl rfl rfl ?_
   repeat' (
    (conv=>whnf)
    first
     | ((try ((with_reducible first|apply NumE.go|apply IdxE.go|apply TextE.go|apply LookE.go|apply CallE.go);(conv=>whnf)));(with_reducible apply SideD.mk);(focus ((first|(intro hc;have hc0:=hc;(try simp only [SPLT] at hc);(try refine And.intro (by first|exact hc0|exact ⟨hc0,hc0⟩|exact ⟨hc0,hc0,hc0⟩) ?_))|skip);first|(exact idx_br (hy (by omega)) rfl)|((try apply givesl);(focus (first|((apply gives_go (h1));(focus (exact DLes.au));(focus exact rfl);(all_goals (exact pre)))|((apply gives_go (h2));(focus (exact DLes.au));(focus exact rfl);(all_goals (exact pre)))|((first|apply gives_go (isName_sem _ _)|apply gives_go (isZero_sem _ _)|apply gives_go (checkSegs_sem _ _ _ _));(focus (exact DLes.au));(focus exact rfl);(all_goals (exact pre)))));(all_goals exact rfl))|exact sideG)))
     | ((with_reducible apply CallO.go);(conv=>whnf);(with_reducible apply SideD.mk);(focus (first|((apply giveso_go (h4 (by omega)));(focus (first|exact rfl|(simp;done)));(focus (exact DLes.au));(focus exact rfl);(all_goals (exact pre))))))
     | ((with_reducible first|apply DrawR.go0|apply KerB.mk);(focus kernel_rfl))
     | (with_reducible first|apply ends_ret|apply ends_norm|apply Halt'.mk)
     | ((with_reducible apply CondD.mk)<;>intro hb<;>(try simp only [SPLT] at hb)<;>(try first|exact noB)))
   all_goals (try exact (false:Bool))
   ·rw [if_pos hb] at hr
    subst hr
    repeat' ((conv=>whnf);first|exact endR|(with_reducible first|apply And.intro|apply endsO_ret|apply endsO_norm|apply DLes.cons))
    all_goals (conv=>whnf)
   ·rw [if_neg (by omega),if_pos hb] at hr
    subst hr
    repeat' ((conv=>whnf);first|exact endR|(with_reducible first|apply And.intro|apply endsO_ret|apply endsO_norm|apply DLes.cons))
    all_goals (conv=>whnf)
   ·exact absurd hb.1 hnm
   ·rename_i g1 g2 g3 g4
    have g3:nb=true:=g3.resolve_left hnm
    have hq:¬ (t = []∧els.length=0)∨ks.length=0∨headNamed ks=true:=by
     rcases hb.2 with ((h|h)|h)|h
     ·exact .inl fun e=>h e.1
     ·exact .inl fun e=>h (by omega)
     ·exact .inr (.inl (by omega))
     ·by_cases hk:ks.length=0
      ·exact .inr (.inl hk)
      ·exact .inr (.inr (by rw [hnh hk];simpa using h))
    rw [if_neg (by omega),if_neg (by simp [g3]),if_neg (fun h=>hnm h.1),if_pos ⟨hnm,hq⟩] at hr
    subst hr
    repeat' ((conv=>whnf);first|exact endR|(with_reducible first|apply And.intro|apply endsO_ret|apply endsO_norm|apply DLes.cons))
    all_goals (conv=>whnf)
   ·rename_i g1 g2 g3 g4 g5
    have g3:nb=true:=g3.resolve_left hnm
    obtain ⟨⟨⟨q1,q2⟩,q3⟩,q4⟩:=g5.resolve_left hnm
    have hq:¬ (nm ≠ []∧(¬ (t = []∧els.length=0)∨ks.length=0∨headNamed ks=true)):=by
     rintro ⟨_,h|h|h⟩
     ·exact h ⟨q1,by omega⟩
     ·omega
     ·rw [hnh (by omega),q4] at h
      cases h
    rw [if_neg (by omega),if_neg (by simp [g3]),if_neg (fun h=>hnm h.1),if_neg hq,if_neg hnm] at hr
    subst hr
    repeat' ((conv=>whnf);first|exact endR|(with_reducible first|apply And.intro|apply endsO_ret|apply endsO_norm|apply DLes.cons))
    all_goals (conv=>whnf)
theorem branchO_sem (b:Br) (hb:b.Txt) (d n:Int) (h0:0≤n) (h1:n≤2000) (h2:0≤d) (h3:d≤1000):SemO Tryz.prog 84 (.obj [.int .i64 n]) [.agg b.row,.int .i64 d] (.int .i64 (b.chk d n).2) (some (.obj [.int .i64 (b.chk d n).1])):=branch_sem b hb d n h0 h1 h2 h3
theorem checkTree_sem (l:List Br) (hl:l.length≤9223372036854775807) (ht:∀ b ∈ l,b.Txt):Sem Tryz.prog 26 [.sl 0 4 (l.map Br.row)] (.int .i64 (treeErr l)):=by
 have h:=branchL_sem l 0 0 (by omega) (by omega) (by omega) (by omega) hl fun x hx m h0 h1=>branch_sem x (ht x hx) 0 m h0 h1 (by omega) (by omega)
 unfold treeErr
 generalize Br.chks 0 0 l=y at h ⊢
 obtain ⟨m,e⟩:=y
 dsimp only at h ⊢
 refine sem_intro (M:=fun t=>mem t [4,1000044,1000045,1000084]) hT hM Tryz.func26 inferInstance rfl rfl rfl rfl rfl rfl ?_
 repeat' (
  (conv=>whnf)
  first
   | ((try ((with_reducible first|apply NumE.go|apply IdxE.go|apply TextE.go|apply LookE.go|apply CallE.go);(conv=>whnf)));(with_reducible apply SideD.mk);(focus (first|exact side)))
   | ((with_reducible apply CallO.go);(conv=>whnf);(with_reducible apply SideD.mk);(focus (first|((apply giveso_go (h));(focus (first|exact rfl|(simp;done)));(focus (exact DLes.au));(focus exact rfl);(all_goals (exact pre))))))
   | ((with_reducible first|apply DrawR.go0|apply KerB.mk);(focus kernel_rfl))
   | (with_reducible first|apply ends_ret|apply ends_norm|apply Halt'.mk)
   | ((with_reducible apply CondD.mk)<;>intro hb<;>(try simp only [SPLT] at hb)<;>(try first|exact noB)))
 all_goals (try exact (false:Bool))
 repeat' ((conv=>whnf);first|exact endR|(with_reducible first|apply And.intro|apply endsO_ret|apply endsO_norm|apply DLes.cons))
 all_goals (conv=>whnf)
end Go.Proofs.YtnlbekongmkmjaaGreatDoor
namespace Go.Proofs.YtnlbekongmkmjaaGreatDoor
set_option linter.unusedSimpArgs false
set_option linter.unusedVariables false
open Go.RowKit
set_option maxRecDepth 100000
set_option maxHeartbeats 4000000
def klR (l:List Br):List D := [.sl 0 4 (l.map Br.row)]
mutual
/-- How many branches there are. -/
def Br.size:Br→Nat
 | .mk _ _ _ ks=>Br.sizes ks+1
def Br.sizes:List Br→Nat
 | []=>0
 | b::l=>b.size+Br.sizes l
end
theorem bsize_mk (n t:Str) (els:List El) (ks:List Br):(Br.mk n t els ks).size=Br.sizes ks+1:=by rw [Br.size]
theorem bsizes_nil:Br.sizes []=0:=by rw [Br.sizes]
theorem bsizes_cons (b:Br) (l:List Br):Br.sizes (b::l)=b.size+Br.sizes l:=by rw [Br.sizes]
attribute [irreducible] Br.size Br.sizes
theorem blen_sizes:∀ l:List Br,l.length≤Br.sizes l
 | []=>Nat.zero_le _
 | ⟨n,t,els,ks⟩::l=>by rw [bsizes_cons,bsize_mk,List.length_cons];have:=blen_sizes l;omega
/-- A right tree has not many branches. -/
theorem right_sizes {d:Int}:∀ (l:List Br),(∀ b ∈ l,∀ m,(b.chk d m).2=0→(b.size:Int)≤((b.chk d m).1 - m) * (8 - d)∧m+1≤(b.chk d m).1)→∀ m,(Br.chks d m l).2=0→(Br.sizes l:Int)≤((Br.chks d m l).1 - m) * (8 - d)∧m+l.length≤(Br.chks d m l).1
 | [],_,m,_=>by rw [bchks_nil,bsizes_nil];simp
 | b::l,hb,m,h=>by
  rw [bchks_cons] at h ⊢
  by_cases he:(b.chk d m).2=0
  ·rw [if_neg (by simp [he])] at h ⊢
   obtain ⟨h1,h2⟩:=hb b (by simp) m he
   obtain ⟨h3,h4⟩:=right_sizes l (fun x hx=>hb x (by simp [hx])) _ h
   rw [bsizes_cons,List.length_cons]
   refine ⟨?_,by omega⟩
   have e:((Br.chks d (b.chk d m).1 l).1 - m) * (8 - d)=((Br.chks d (b.chk d m).1 l).1 - (b.chk d m).1) * (8 - d)+((b.chk d m).1 - m) * (8 - d):=by
    rw [← Int.add_mul]
    congr 1
    omega
   rw [e]
   omega
  ·rw [if_pos he] at h
   exact absurd h he
theorem right_size (b:Br):∀ d m:Int,(b.chk d m).2=0→(b.size:Int)≤((b.chk d m).1 - m) * (8 - d)∧m+1≤(b.chk d m).1:=by
 induction b using Br.ind with
 | h n t els ks ih=>
  intro d m h
  rw [bsize_mk]
  rw [bchk_mk] at h ⊢
  split at h
  ·cases h
  ·rename_i h1
   rw [if_neg h1]
   split at h
   ·cases h
   ·rename_i h2
    rw [if_neg h2]
    split at h
    ·cases h
    ·rename_i h3
     rw [if_neg h3]
     split at h
     ·cases h
     ·rename_i h4
      rw [if_neg h4]
      split at h
      ·rename_i h5
       rw [if_pos h5]
       have hk:ks = []:=List.length_eq_zero_iff.1 (by simp only [h5,true_and] at h3;omega)
       have hp:pathMany n m=m+1:=by unfold pathMany;rw [if_pos h5]
       rw [hp,hk,bsizes_nil]
       dsimp only
       rw [show m+1 - m=1 by omega,Int.one_mul]
       omega
      ·rename_i h5
       rw [if_neg h5]
       have hp:pathMany n m=m:=by unfold pathMany;rw [if_neg h5]
       rw [hp] at h ⊢
       obtain ⟨g1,g2⟩:=right_sizes (d:=d+1) ks (fun b hb m hm=>ih b hb (d+1) m hm) m h
       have hk:ks.length ≠ 0:=fun e=>h4 ⟨h5,.inr (.inl e)⟩
       refine ⟨?_,by omega⟩
       generalize (Br.chks (d+1) m ks).1=c at g1 g2 ⊢
       have e:(c - m) * (8 - d)=(c - m) * (8 - (d+1))+(c - m):=by
        rw [show 8 - d=(8 - (d+1))+1 by omega,Int.mul_add,Int.mul_one]
       rw [e]
       omega
theorem tree_sizes {l:List Br} (h:treeErr l=0):Br.sizes l≤16000:=by
 obtain ⟨h1,_⟩:=right_sizes (d:=0) l (fun b _ m hm=>right_size b 0 m hm) 0 h
 obtain ⟨_,h2⟩:=bchks_bd (d:=0) l (fun c _ n hn=>bchk_bd c 0 n hn) 0 (by omega)
 have h2:=h2 h
 omega
/-- The lists of branches that a name leads to. -/
def filtL (n:Str) (l:List Br):List (List Br):=(l.filter fun b=>b.name == n).map Br.kids
def stepL (n:Str) (ls:List (List Br)):List (List Br):=ls.flatMap (filtL n)
theorem filtL_at {n:Str} {l:List Br} {m:Nat} {b:Br} (h:l[m]?=some b):filtL n (l.drop m)=if b.name=n then b.kids::filtL n (l.drop (m+1)) else filtL n (l.drop (m+1)):=by
 unfold filtL
 rw [List.drop_eq_getElem_cons (List.getElem?_eq_some_iff.1 h).1,(List.getElem?_eq_some_iff.1 h).2,List.filter_cons]
 by_cases e:b.name=n
 ·rw [if_pos (by simpa using e),if_pos e];rfl
 ·rw [if_neg (by simpa using e),if_neg e]
theorem filtL_yes {n n1 t:Str} {els:List El} {ks:List Br} {l:List Br} {m:Nat} (h:l[m]?=some (.mk n1 t els ks)) (e:n1=n):filtL n (l.drop m)=ks::filtL n (l.drop (m+1)):=(filtL_at h).trans (if_pos e)
theorem filtL_no {n n1 t:Str} {els:List El} {ks:List Br} {l:List Br} {m:Nat} (h:l[m]?=some (.mk n1 t els ks)) (e:¬ n1=n):filtL n (l.drop m)=filtL n (l.drop (m+1)):=(filtL_at h).trans (if_neg e)
theorem stepL_at {n:Str} {ls:List (List Br)} {k:Nat} {l:List Br} (h:ls[k]?=some l):stepL n (ls.drop k)=filtL n l++stepL n (ls.drop (k+1)):=by
 unfold stepL
 rw [List.drop_eq_getElem_cons (List.getElem?_eq_some_iff.1 h).1,(List.getElem?_eq_some_iff.1 h).2,List.flatMap_cons]
def lszs:List (List Br)→Nat
 | []=>0
 | l::ls=>1+Br.sizes l+lszs ls
theorem lszs_app:∀ a b:List (List Br),lszs (a++b)=lszs a+lszs b
 | [],b=>by simp [lszs]
 | l::a,b=>by rw [List.cons_append,lszs,lszs,lszs_app a b];omega
theorem lszs_len:∀ ls:List (List Br),ls.length≤lszs ls
 | []=>Nat.le_refl _
 | l::ls=>by rw [lszs,List.length_cons];have:=lszs_len ls;omega
theorem lszs_mem:∀ {ls:List (List Br)} {l:List Br},l ∈ ls→Br.sizes l≤lszs ls
 | m::ls,l,h=>by
  rw [lszs]
  rcases List.mem_cons.1 h with rfl|h
  ·omega
  ·have:=lszs_mem h;omega
theorem filtL_sz (n:Str):∀ l:List Br,lszs (filtL n l)≤Br.sizes l
 | []=>by simp [filtL,lszs]
 | ⟨n1,t,els,ks⟩::l=>by
  have ih:=filtL_sz n l
  have hat:=filtL_at (n:=n) (l:=⟨n1,t,els,ks⟩::l) (m:=0) rfl
  rw [List.drop_zero] at hat
  rw [hat,bsizes_cons,bsize_mk]
  show lszs (if n1=n then ks::filtL n l else filtL n l)≤_
  split
  ·rw [lszs];omega
  ·omega
theorem stepL_sz (n:Str):∀ ls:List (List Br),lszs (stepL n ls)≤lszs ls
 | []=>Nat.le_refl _
 | l::ls=>by
  have ih:=stepL_sz n ls
  have h:=filtL_sz n l
  rw [show stepL n (l::ls)=filtL n l++stepL n ls from rfl,lszs_app,lszs]
  omega
theorem insideL_step (n:Str) (ns:List Str) (ls:List (List Br)):insideL (n::ns) ls=insideL ns (stepL n ls):=rfl
theorem idx_kl {ls:List (List Br)} {i:Int} {j:Nat} {l:List Br} (h:ls[j]?=some l) (hi:i=j):0≤i∧(ls.map klR)[i.toNat]?=some [.sl 0 4 (l.map Br.row)]:=by
 subst hi
 exact ⟨by omega,by rw [Int.toNat_natCast,List.getElem?_map,h];rfl⟩
theorem kidsOf_sem (tree:List Br) (ns:List Str) (hl:ns.length≤2000) (hs:Br.sizes tree≤100000):Sem Tryz.prog 87 [.sl 0 4 (tree.map Br.row),.sl 0 1 (ns.map fun s => [.str s])] (.sl 0 1 ((inside1 ns tree).map klR)):=by
 rw [← insideL_one]
 have hnl:(ns.map fun s => [D.str s]).length=ns.length:=List.length_map _
 generalize hR:insideL ns [tree]=R
 refine sem_intro (M:=fun t=>mem t [1000044,1000045,1000084]) hT hM Tryz.func87 inferInstance rfl rfl rfl rfl rfl rfl ?_
 repeat' (
  (conv=>whnf)
  first
   | ((try ((with_reducible first|apply NumE.go|apply IdxE.go|apply TextE.go|apply LookE.go|apply CallE.go);(conv=>whnf)));(with_reducible apply SideD.mk);(focus (first|exact side)))
   | ((with_reducible first|apply DrawR.go0|apply KerB.mk);(focus kernel_rfl))
   | (with_reducible first|apply ends_ret|apply ends_norm|apply Halt'.mk)
   | ((with_reducible apply CondD.mk)<;>intro hb<;>(try simp only [SPLT] at hb)<;>(try first|exact noB)))
 all_goals (try exact (false:Bool))
 refine ht_down [5] ?_
 conv=>whnf
 refine loop_go (M:=fun t=>mem t [1000044,1000045,1000084]) hT hM (fun x:Nat × List (List Br) => [(17,.int .i64 x.1),(5,.sl 1 1 (x.2.map klR))]) (fun x=>x.1≤ns.length∧lszs x.2≤100001∧insideL (ns.drop x.1) x.2=R) (fun x=>ns.length - x.1) ((0,[tree])) ?_ ?_ ?_
 ·(conv=>whnf)
  refine ⟨?_,by rfl⟩
  repeat' ((conv=>whnf);first|exact endF|exact endF2|with_reducible apply DLes.cons)
 ·exact ⟨Nat.zero_le _,by simp [lszs];omega,hR⟩
 ·rintro ⟨i,ls⟩ ⟨hi,hsz,hv⟩
  dsimp only at hi hsz hv ⊢
  have hlsl:(ls.map klR).length=ls.length:=List.length_map _
  have hlsz:=lszs_len ls
  cases hx:ns[i]? with
  | none=>
   have hm:=List.getElem?_eq_none_iff.1 hx
   rw [List.drop_of_length_le hm] at hv
   have hv:ls=R:=hv
   subst hv
   repeat' (
    (conv=>whnf)
    first
     | ((try ((with_reducible first|apply NumE.go|apply IdxE.go|apply TextE.go|apply LookE.go|apply CallE.go);(conv=>whnf)));(with_reducible apply SideD.mk);(focus (first|exact side)))
     | ((with_reducible first|apply DrawR.go0|apply KerB.mk);(focus kernel_rfl))
     | (with_reducible first|apply ends_ret|apply ends_norm|apply Halt'.mk)
     | ((with_reducible apply CondD.mk)<;>intro hb<;>(try simp only [SPLT] at hb)<;>(try first|exact noB)))
   all_goals (try exact (false:Bool))
   repeat' ((conv=>whnf);first|exact endR|(with_reducible first|apply And.intro|apply endsO_ret|apply endsO_norm|apply DLes.cons))
   all_goals (conv=>whnf)
  | some n=>
   have hlt:=(List.getElem?_eq_some_iff.1 hx).1
   rw [List.drop_eq_getElem_cons hlt,(List.getElem?_eq_some_iff.1 hx).2,insideL_step] at hv
   have hst:=stepL_sz n ls
   generalize hR2:stepL n ls=R2 at hv hst
   have hR2l:=lszs_len R2
   repeat' (
    (conv=>whnf)
    first
     | ((try ((with_reducible first|apply NumE.go|apply IdxE.go|apply TextE.go|apply LookE.go|apply CallE.go);(conv=>whnf)));(with_reducible apply SideD.mk);(focus (first|(exact idx_eq (f:=fun s => [D.str s]) hx rfl)|exact side)))
     | ((with_reducible first|apply DrawR.go0|apply KerB.mk);(focus kernel_rfl))
     | (with_reducible first|apply ends_ret|apply ends_norm|apply Halt'.mk)
     | ((with_reducible apply CondD.mk)<;>intro hb<;>(try simp only [SPLT] at hb)<;>(try first|exact noB)))
   all_goals (try exact (false:Bool))
   refine ht_down [5] ?_
   conv=>whnf
   refine loop_go (M:=fun t=>mem t [1000044,1000045,1000084]) hT hM (fun x:Nat × List (List Br) => [(23,.int .i64 x.1),(8,.sl 1 1 (x.2.map klR))]) (fun x=>x.1≤ls.length∧x.2++stepL n (ls.drop x.1)=R2) (fun x=>ls.length - x.1) ((0,[])) ?_ ?_ ?_
   ·(conv=>whnf)
    refine ⟨?_,by rfl⟩
    repeat' ((conv=>whnf);first|exact endF|(exact dle_nil rfl)|exact endF2|with_reducible apply DLes.cons)
   ·exact ⟨Nat.zero_le _,by simpa using hR2⟩
   ·rintro ⟨k,acc⟩ ⟨hk,hacc⟩
    dsimp only at hk hacc ⊢
    cases hy:ls[k]? with
    | none=>
     have hm:=List.getElem?_eq_none_iff.1 hy
     rw [List.drop_of_length_le hm] at hacc
     have hacc:acc=R2:=by simpa [stepL] using hacc
     subst hacc
     repeat' (
      (conv=>whnf)
      first
       | ((try ((with_reducible first|apply NumE.go|apply IdxE.go|apply TextE.go|apply LookE.go|apply CallE.go);(conv=>whnf)));(with_reducible apply SideD.mk);(focus (first|exact side)))
       | ((with_reducible first|apply DrawR.go0|apply KerB.mk);(focus kernel_rfl))
       | (with_reducible first|apply ends_ret|apply ends_norm|apply Halt'.mk)
       | ((with_reducible apply CondD.mk)<;>intro hb<;>(try simp only [SPLT] at hb)<;>(try first|exact noB)))
     all_goals (try exact (false:Bool))
     refine ⟨(i+1,acc),⟨by dsimp only;omega,by dsimp only;omega,hv⟩,by dsimp only;omega,?_⟩
     (conv=>whnf)
     refine ⟨?_,by rfl⟩
     repeat' ((conv=>whnf);first|exact endF|exact endF2|with_reducible apply DLes.cons)
    | some l=>
     have hlk:=(List.getElem?_eq_some_iff.1 hy).1
     rw [stepL_at hy] at hacc
     have hll:(l.map Br.row).length=l.length:=List.length_map _
     have hlsz2:=blen_sizes l
     have hlm:=lszs_mem (List.mem_of_getElem? hy)
     repeat' (
      (conv=>whnf)
      first
       | ((try ((with_reducible first|apply NumE.go|apply IdxE.go|apply TextE.go|apply LookE.go|apply CallE.go);(conv=>whnf)));(with_reducible apply SideD.mk);(focus (first|(exact idx_kl hy rfl)|exact side)))
       | ((with_reducible first|apply DrawR.go0|apply KerB.mk);(focus kernel_rfl))
       | (with_reducible first|apply ends_ret|apply ends_norm|apply Halt'.mk)
       | ((with_reducible apply CondD.mk)<;>intro hb<;>(try simp only [SPLT] at hb)<;>(try first|exact noB)))
     all_goals (try exact (false:Bool))
     refine ht_down [5] ?_
     conv=>whnf
     refine loop_go (M:=fun t=>mem t [1000044,1000045,1000084]) hT hM (fun x:Nat × List (List Br) => [(29,.int .i64 x.1),(8,.sl 1 1 (x.2.map klR))]) (fun x=>x.1≤l.length∧x.2++(filtL n (l.drop x.1)++stepL n (ls.drop (k+1)))=R2) (fun x=>l.length - x.1) ((0,acc)) ?_ ?_ ?_
     ·(conv=>whnf)
      refine ⟨?_,by rfl⟩
      repeat' ((conv=>whnf);first|exact endF|exact endF2|with_reducible apply DLes.cons)
     ·exact ⟨Nat.zero_le _,by simpa using hacc⟩
     ·rintro ⟨m,ac⟩ ⟨hmm,hac⟩
      dsimp only at hmm hac ⊢
      have hacl:ac.length≤1000000:=by
       have:=congrArg List.length hac
       rw [List.length_append] at this
       omega
      cases hz:l[m]? with
      | none=>
       have hm2:=List.getElem?_eq_none_iff.1 hz
       rw [List.drop_of_length_le hm2] at hac
       repeat' (
        (conv=>whnf)
        first
         | ((try ((with_reducible first|apply NumE.go|apply IdxE.go|apply TextE.go|apply LookE.go|apply CallE.go);(conv=>whnf)));(with_reducible apply SideD.mk);(focus (first|exact side)))
         | ((with_reducible first|apply DrawR.go0|apply KerB.mk);(focus kernel_rfl))
         | (with_reducible first|apply ends_ret|apply ends_norm|apply Halt'.mk)
         | ((with_reducible apply CondD.mk)<;>intro hb<;>(try simp only [SPLT] at hb)<;>(try first|exact noB)))
       all_goals (try exact (false:Bool))
       refine ⟨(k+1,ac),⟨by dsimp only;omega,by simpa [filtL] using hac⟩,by dsimp only;omega,?_⟩
       (conv=>whnf)
       refine ⟨?_,by rfl⟩
       repeat' ((conv=>whnf);first|exact endF|exact endF2|with_reducible apply DLes.cons)
      | some b=>
       have hlm2:=(List.getElem?_eq_some_iff.1 hz).1
       obtain ⟨n1,t1,els1,ks1⟩:=b
       repeat' (
        (conv=>whnf)
        first
         | ((try ((with_reducible first|apply NumE.go|apply IdxE.go|apply TextE.go|apply LookE.go|apply CallE.go);(conv=>whnf)));(with_reducible apply SideD.mk);(focus (first|(exact idx_br hz rfl)|exact side)))
         | ((with_reducible first|apply DrawR.go0|apply KerB.mk);(focus kernel_rfl))
         | (with_reducible first|apply ends_ret|apply ends_norm|apply Halt'.mk)
         | ((with_reducible apply CondD.mk)<;>intro hb<;>(try simp only [SPLT] at hb)<;>(try first|exact noB)))
       all_goals (try exact (false:Bool))
       ·rw [filtL_yes hz hb] at hac
        refine ⟨(m+1,ac ++ [ks1]),⟨by dsimp only;omega,by rw [List.append_assoc];exact hac⟩,by dsimp only;omega,?_⟩
        (conv=>whnf)
        refine ⟨?_,by rfl⟩
        repeat' ((conv=>whnf);first|exact endF|(exact DLe.of_eq (congrArg (D.sl 1 1) (by rw [List.map_append];rfl)))|exact endF2|with_reducible apply DLes.cons)
       ·rw [filtL_no hz hb] at hac
        refine ⟨(m+1,ac),⟨by dsimp only;omega,hac⟩,by dsimp only;omega,?_⟩
        (conv=>whnf)
        refine ⟨?_,by rfl⟩
        repeat' ((conv=>whnf);first|exact endF|exact endF2|with_reducible apply DLes.cons)
end Go.Proofs.YtnlbekongmkmjaaGreatDoor
namespace Go.Proofs.YtnlbekongmkmjaaGreatDoor
set_option linter.unusedSimpArgs false
set_option linter.unusedVariables false
open Go.RowKit
set_option maxRecDepth 100000
theorem own_fm {k:Int} {ks:List Cond} {p:Str} {vs:List Str} {lo hi:Int} (h:ownErr k ks.length p vs lo hi=0):(k=3∨k=7∨k=8→∃ x,ks = [x])∧(k=1∨k=2→ks ≠ [])∧1≤k∧k≤9:=by
 unfold ownErr at h
 split at h
 ·cases h
 ·rename_i hr
  split at h
  ·cases h
  ·rename_i hf
   have hf:formB k ks.length p vs.length lo hi=false:=by simpa using hf
   unfold formB at hf
   simp only [Bool.or_eq_false_iff] at hf
   have h5:=hf.2
   refine ⟨fun hk => ?_,fun hk e => ?_,by omega,by omega⟩
   ·have:ks.length=1:=by
     rcases hk with rfl|rfl|rfl<;>simp [usesOfB,overB] at h5<;>omega
    match ks,this with
    | [x],_=>exact ⟨x,rfl⟩
   ·subst e
    rcases hk with rfl|rfl<;>simp [usesOfB] at h5
theorem hasC_iff {l:List Cond} {c:Cond}:hasC l c=true↔c ∈ l:=by
 unfold hasC
 rw [List.any_eq_true]
 constructor
 ·rintro ⟨x,hx,h⟩
  rw [← (Cond.same_iff x c).1 h]
  exact hx
 ·intro h
  exact ⟨c,h,same_refl c⟩
end Go.Proofs.YtnlbekongmkmjaaGreatDoor
namespace Go.Proofs.YtnlbekongmkmjaaGreatDoor
set_option linter.unusedSimpArgs false
set_option linter.unusedVariables false
open Go.RowKit
set_option maxRecDepth 100000
set_option maxHeartbeats 4000000
theorem isAtom_sem (k:Int) (rows:List (List D)) (p:Str) (vs:List (List D)) (lo hi:Int):Sem Tryz.prog 69 [.agg [.int .i64 k,.sl 0 6 rows,.str p,.sl 0 1 vs,.int .i64 lo,.int .i64 hi]] (.bool (isAtomB k)):=by
 refine sem_intro (M:=fun t=>mem t [1000021,1000034,1000044]) hT hM Tryz.func69 inferInstance rfl rfl rfl rfl rfl rfl ?_
 repeat' (
  (conv=>whnf)
  first
   | ((try ((with_reducible first|apply NumE.go|apply IdxE.go|apply TextE.go|apply LookE.go|apply CallE.go);(conv=>whnf)));(with_reducible apply SideD.mk);(focus ((first|(intro hc;have hc0:=hc;(try simp only [SPLT] at hc);(try refine And.intro (by first|exact hc0|exact ⟨hc0,hc0⟩|exact ⟨hc0,hc0,hc0⟩) ?_))|skip);first|exact sideG)))
   | ((with_reducible first|apply DrawR.go0|apply KerB.mk);(focus kernel_rfl))
   | (with_reducible first|apply ends_ret|apply ends_norm|apply Halt'.mk)
   | ((with_reducible apply CondD.mk)<;>intro hb<;>(try simp only [SPLT] at hb)<;>(try first|exact noB)))
 all_goals (try exact (false:Bool))
 repeat' ((conv=>whnf);first|exact endR|(with_reducible first|apply And.intro|apply endsO_ret|apply endsO_norm|apply DLes.cons))
 all_goals (conv=>whnf)
theorem atoms_sem (c:Cond):∀ out:List Cond,out.length+c.acnt≤100000→Sem Tryz.prog 34 [.sl 1 6 (out.map Cond.row),.agg c.row] (.sl 1 6 ((c.ats out).map Cond.row)):=by
 induction c using Cond.ind with
 | h k ks p vs lo hi ih=>
  intro out hn
  have h1:=isAtom_sem k (ks.map Cond.row) p (vs.map fun s => [.str s]) lo hi
  have h2:=has_sem out (.mk k ks p vs lo hi)
  rw [Cond.row_mk] at h2
  have hll:(ks.map Cond.row).length=ks.length:=List.length_map _
  have hol:(out.map Cond.row).length=out.length:=List.length_map _
  rw [acnt_mk] at hn
  rw [Cond.row_mk]
  refine sem_lenA 1 1 rfl rfl rfl fun hks => ?_
  rw [List.length_map] at hks
  rw [← Cond.row_mk]
  have hr:=ats_mk k ks p vs lo hi out
  generalize (Cond.mk k ks p vs lo hi).ats out=r at hr ⊢
  generalize hasC out (.mk k ks p vs lo hi)=b at h2 hr
  generalize isAtomB k=q at h1 hr hn
  rw [Cond.row_mk]
  refine sem_intro (M:=fun t=>mem t [6,1000021,1000034,1000044]) hT hM Tryz.func34 inferInstance rfl rfl rfl rfl rfl rfl ?_
  repeat' (
   (conv=>whnf)
   first
    | ((try ((with_reducible first|apply NumE.go|apply IdxE.go|apply TextE.go|apply LookE.go|apply CallE.go);(conv=>whnf)));(with_reducible apply SideD.mk);(focus (first|((try apply givesl);(focus (first|((apply gives_go (h1));(focus (exact DLes.au));(focus exact rfl);(all_goals (exact pre)))|((apply gives_go (h2));(focus (exact DLes.au));(focus exact rfl);(all_goals (exact pre)))|((apply gives_go (has_sem _ _));(focus (exact DLes.au));(focus exact rfl);(all_goals (exact pre)))|((first|apply gives_go (isAtom_sem _ _ _ _ _ _)|apply gives_go (atomsNil_sem _ _)|apply gives_go (hasNil_sem _));(focus (exact DLes.au));(focus exact rfl);(all_goals (exact pre)))));(all_goals exact rfl))|exact side)))
    | ((with_reducible apply CallO.go);(conv=>whnf);(with_reducible apply SideD.mk);(focus (first|((apply giveso_go (atomsO_sem _ _ _));(focus (first|exact rfl|(simp;done)));(focus (exact DLes.au));(focus exact rfl);(all_goals (exact pre))))))
    | ((with_reducible first|apply DrawR.go0|apply KerB.mk);(focus kernel_rfl))
    | (with_reducible first|apply ends_ret|apply ends_norm|apply Halt'.mk)
    | ((with_reducible apply CondD.mk)<;>intro hb<;>(try simp only [SPLT] at hb)<;>(try first|exact noB)))
  all_goals (try exact (false:Bool))
  ·rw [if_neg (by simp_all)] at hr
   refine loop_go (M:=fun t=>mem t [6,1000021,1000034,1000044]) hT hM (fun x:Nat × List Cond => [(0,.sl 1 6 (x.2.map Cond.row)),(13,.int .i64 x.1)]) (fun x=>x.1≤ks.length∧x.2.length+Cond.acnts (ks.drop x.1)≤100000∧Cond.atss (ks.drop x.1) x.2=r) (fun x=>ks.length - x.1) ((0,out)) ?_ ?_ ?_
   ·(conv=>whnf)
    refine ⟨?_,by rfl⟩
    repeat' ((conv=>whnf);first|exact endF|exact endF2|with_reducible apply DLes.cons)
   ·exact ⟨Nat.zero_le _,by rw [if_neg (by simp_all)] at hn;simp;omega,hr.symm⟩
   ·rintro ⟨i,acc⟩ ⟨hi,hm,hv⟩
    dsimp only at hi hm hv ⊢
    cases hx:ks[i]? with
    | none=>
     have hm':=List.getElem?_eq_none_iff.1 hx
     rw [List.drop_of_length_le hm',atss_nil] at hv
     subst hv
     repeat' (
      (conv=>whnf)
      first
       | ((try ((with_reducible first|apply NumE.go|apply IdxE.go|apply TextE.go|apply LookE.go|apply CallE.go);(conv=>whnf)));(with_reducible apply SideD.mk);(focus (first|((try apply givesl);(focus (first|((apply gives_go (has_sem _ _));(focus (exact DLes.au));(focus exact rfl);(all_goals (exact pre)))|((first|apply gives_go (isAtom_sem _ _ _ _ _ _)|apply gives_go (atomsNil_sem _ _)|apply gives_go (hasNil_sem _));(focus (exact DLes.au));(focus exact rfl);(all_goals (exact pre)))));(all_goals exact rfl))|exact side)))
       | ((with_reducible apply CallO.go);(conv=>whnf);(with_reducible apply SideD.mk);(focus (first|((apply giveso_go (atomsO_sem _ _ _));(focus (first|exact rfl|(simp;done)));(focus (exact DLes.au));(focus exact rfl);(all_goals (exact pre))))))
       | ((with_reducible first|apply DrawR.go0|apply KerB.mk);(focus kernel_rfl))
       | (with_reducible first|apply ends_ret|apply ends_norm|apply Halt'.mk)
       | ((with_reducible apply CondD.mk)<;>intro hb<;>(try simp only [SPLT] at hb)<;>(try first|exact noB)))
     all_goals (try exact (false:Bool))
     repeat' ((conv=>whnf);first|exact endR|(with_reducible first|apply And.intro|apply endsO_ret|apply endsO_norm|apply DLes.cons))
     all_goals (conv=>whnf)
    | some x=>
     have hlt:=(List.getElem?_eq_some_iff.1 hx).1
     rw [atss_at hx] at hv
     rw [List.drop_eq_getElem_cons hlt,(List.getElem?_eq_some_iff.1 hx).2,acnts_cons] at hm
     have ih':=SemO.of (ih x (List.mem_of_getElem? hx) acc (by omega))
     have hl2:=ats_len x acc
     generalize x.ats acc=acc2 at ih' hv hl2
     obtain ⟨k1,ks1,p1,vs1,lo1,hi1⟩:=x
     rw [Cond.row_mk] at ih'
     repeat' (
      (conv=>whnf)
      first
       | ((try ((with_reducible first|apply NumE.go|apply IdxE.go|apply TextE.go|apply LookE.go|apply CallE.go);(conv=>whnf)));(with_reducible apply SideD.mk);(focus (first|(exact idx_row hx rfl)|((try apply givesl);(focus (first|((apply gives_go (has_sem _ _));(focus (exact DLes.au));(focus exact rfl);(all_goals (exact pre)))|((first|apply gives_go (isAtom_sem _ _ _ _ _ _)|apply gives_go (atomsNil_sem _ _)|apply gives_go (hasNil_sem _));(focus (exact DLes.au));(focus exact rfl);(all_goals (exact pre)))));(all_goals exact rfl))|exact side)))
       | ((with_reducible apply CallO.go);(conv=>whnf);(with_reducible apply SideD.mk);(focus (first|((apply giveso_go (ih'));(focus (first|exact rfl|(simp;done)));(focus (exact DLes.au));(focus exact rfl);(all_goals (exact pre))))))
       | ((with_reducible first|apply DrawR.go0|apply KerB.mk);(focus kernel_rfl))
       | (with_reducible first|apply ends_ret|apply ends_norm|apply Halt'.mk)
       | ((with_reducible apply CondD.mk)<;>intro hb<;>(try simp only [SPLT] at hb)<;>(try first|exact noB)))
     all_goals (try exact (false:Bool))
     refine ⟨(i+1,acc2),⟨by dsimp only;omega,by dsimp only;omega,hv⟩,by dsimp only;omega,?_⟩
     (conv=>whnf)
     refine ⟨?_,by rfl⟩
     repeat' ((conv=>whnf);first|exact endF|exact endF2|with_reducible apply DLes.cons)
  ·rw [if_pos (by simp_all),if_pos (by simp_all)] at hr
   subst hr
   repeat' ((conv=>whnf);first|exact endR|(with_reducible first|apply And.intro|apply endsO_ret|apply endsO_norm|apply DLes.cons))
   all_goals (conv=>whnf)
  ·rw [if_pos (by simp_all),if_neg (by simp_all)] at hr
   subst hr
   repeat' ((conv=>whnf);first|exact endR|(with_reducible first|apply And.intro|apply endsO_ret|apply endsO_norm|apply DLes.cons))
   all_goals (conv=>whnf)
   refine rle_sl ?_
   rw [List.map_append,List.map_cons,List.map_nil,Cond.row_mk]
theorem atomsNil_sem (c:Cond) (hn:c.acnt≤100000):Sem Tryz.prog 34 [.nil,.agg c.row] (.sl 0 6 ((c.ats []).map Cond.row)):=by
 obtain ⟨k,ks,p,vs,lo,hi⟩:=c
 have h1:=isAtom_sem k (ks.map Cond.row) p (vs.map fun s => [.str s]) lo hi
 have h2:=hasNil_sem (.mk k ks p vs lo hi)
 rw [Cond.row_mk] at h2
 have hll:(ks.map Cond.row).length=ks.length:=List.length_map _
 rw [acnt_mk] at hn
 rw [Cond.row_mk]
 refine sem_lenA 1 1 rfl rfl rfl fun hks => ?_
 rw [List.length_map] at hks
 rw [← Cond.row_mk]
 have hr:=ats_mk k ks p vs lo hi []
 rw [show hasC [] (.mk k ks p vs lo hi)=false from rfl] at hr
 generalize (Cond.mk k ks p vs lo hi).ats []=r at hr ⊢
 generalize isAtomB k=q at h1 hr hn
 rw [Cond.row_mk]
 refine sem_intro (M:=fun t=>mem t [6,1000021,1000034,1000044]) hT hM Tryz.func34 inferInstance rfl rfl rfl rfl rfl rfl ?_
 repeat' (
  (conv=>whnf)
  first
   | ((try ((with_reducible first|apply NumE.go|apply IdxE.go|apply TextE.go|apply LookE.go|apply CallE.go);(conv=>whnf)));(with_reducible apply SideD.mk);(focus (first|((try apply givesl);(focus (first|((apply gives_go (h1));(focus (exact DLes.au));(focus exact rfl);(all_goals (exact pre)))|((apply gives_go (h2));(focus (exact DLes.au));(focus exact rfl);(all_goals (exact pre)))|((apply gives_go (has_sem _ _));(focus (exact DLes.au));(focus exact rfl);(all_goals (exact pre)))|((first|apply gives_go (isAtom_sem _ _ _ _ _ _)|apply gives_go (atomsNil_sem _ _)|apply gives_go (hasNil_sem _));(focus (exact DLes.au));(focus exact rfl);(all_goals (exact pre)))));(all_goals exact rfl))|exact side)))
   | ((with_reducible apply CallO.go);(conv=>whnf);(with_reducible apply SideD.mk);(focus (first|((apply giveso_go (atomsO_sem _ _ _));(focus (first|exact rfl|(simp;done)));(focus (exact DLes.au));(focus exact rfl);(all_goals (exact pre))))))
   | ((with_reducible first|apply DrawR.go0|apply KerB.mk);(focus kernel_rfl))
   | (with_reducible first|apply ends_ret|apply ends_norm|apply Halt'.mk)
   | ((with_reducible apply CondD.mk)<;>intro hb<;>(try simp only [SPLT] at hb)<;>(try first|exact noB)))
 all_goals (try exact (false:Bool))
 ·rw [if_neg (by simp_all)] at hr
  refine loop_go (M:=fun t=>mem t [6,1000021,1000034,1000044]) hT hM (fun x:Nat × List Cond => [(0,.sl 1 6 (x.2.map Cond.row)),(13,.int .i64 x.1)]) (fun x=>x.1≤ks.length∧x.2.length+Cond.acnts (ks.drop x.1)≤100000∧Cond.atss (ks.drop x.1) x.2=r) (fun x=>ks.length - x.1) ((0,[])) ?_ ?_ ?_
  ·(conv=>whnf)
   refine ⟨?_,by rfl⟩
   repeat' ((conv=>whnf);first|exact endF|exact endF2|with_reducible apply DLes.cons)
  ·exact ⟨Nat.zero_le _,by rw [if_neg (by simp_all)] at hn;simp;omega,hr.symm⟩
  ·rintro ⟨i,acc⟩ ⟨hi,hm,hv⟩
   dsimp only at hi hm hv ⊢
   cases hx:ks[i]? with
   | none=>
    have hm':=List.getElem?_eq_none_iff.1 hx
    rw [List.drop_of_length_le hm',atss_nil] at hv
    subst hv
    repeat' (
     (conv=>whnf)
     first
      | ((try ((with_reducible first|apply NumE.go|apply IdxE.go|apply TextE.go|apply LookE.go|apply CallE.go);(conv=>whnf)));(with_reducible apply SideD.mk);(focus (first|((try apply givesl);(focus (first|((apply gives_go (has_sem _ _));(focus (exact DLes.au));(focus exact rfl);(all_goals (exact pre)))|((first|apply gives_go (isAtom_sem _ _ _ _ _ _)|apply gives_go (atomsNil_sem _ _)|apply gives_go (hasNil_sem _));(focus (exact DLes.au));(focus exact rfl);(all_goals (exact pre)))));(all_goals exact rfl))|exact side)))
      | ((with_reducible apply CallO.go);(conv=>whnf);(with_reducible apply SideD.mk);(focus (first|((apply giveso_go (atomsO_sem _ _ _));(focus (first|exact rfl|(simp;done)));(focus (exact DLes.au));(focus exact rfl);(all_goals (exact pre))))))
      | ((with_reducible first|apply DrawR.go0|apply KerB.mk);(focus kernel_rfl))
      | (with_reducible first|apply ends_ret|apply ends_norm|apply Halt'.mk)
      | ((with_reducible apply CondD.mk)<;>intro hb<;>(try simp only [SPLT] at hb)<;>(try first|exact noB)))
    all_goals (try exact (false:Bool))
    repeat' ((conv=>whnf);first|exact endR|(with_reducible first|apply And.intro|apply endsO_ret|apply endsO_norm|apply DLes.cons))
    all_goals (conv=>whnf)
   | some x=>
    have hlt:=(List.getElem?_eq_some_iff.1 hx).1
    rw [atss_at hx] at hv
    rw [List.drop_eq_getElem_cons hlt,(List.getElem?_eq_some_iff.1 hx).2,acnts_cons] at hm
    have ih':=SemO.of (atoms_sem x acc (by omega))
    have hl2:=ats_len x acc
    generalize x.ats acc=acc2 at ih' hv hl2
    obtain ⟨k1,ks1,p1,vs1,lo1,hi1⟩:=x
    rw [Cond.row_mk] at ih'
    repeat' (
     (conv=>whnf)
     first
      | ((try ((with_reducible first|apply NumE.go|apply IdxE.go|apply TextE.go|apply LookE.go|apply CallE.go);(conv=>whnf)));(with_reducible apply SideD.mk);(focus (first|(exact idx_row hx rfl)|((try apply givesl);(focus (first|((apply gives_go (has_sem _ _));(focus (exact DLes.au));(focus exact rfl);(all_goals (exact pre)))|((first|apply gives_go (isAtom_sem _ _ _ _ _ _)|apply gives_go (atomsNil_sem _ _)|apply gives_go (hasNil_sem _));(focus (exact DLes.au));(focus exact rfl);(all_goals (exact pre)))));(all_goals exact rfl))|exact side)))
      | ((with_reducible apply CallO.go);(conv=>whnf);(with_reducible apply SideD.mk);(focus (first|((apply giveso_go (ih'));(focus (first|exact rfl|(simp;done)));(focus (exact DLes.au));(focus exact rfl);(all_goals (exact pre))))))
      | ((with_reducible first|apply DrawR.go0|apply KerB.mk);(focus kernel_rfl))
      | (with_reducible first|apply ends_ret|apply ends_norm|apply Halt'.mk)
      | ((with_reducible apply CondD.mk)<;>intro hb<;>(try simp only [SPLT] at hb)<;>(try first|exact noB)))
    all_goals (try exact (false:Bool))
    refine ⟨(i+1,acc2),⟨by dsimp only;omega,by dsimp only;omega,hv⟩,by dsimp only;omega,?_⟩
    (conv=>whnf)
    refine ⟨?_,by rfl⟩
    repeat' ((conv=>whnf);first|exact endF|exact endF2|with_reducible apply DLes.cons)
 ·rw [if_pos (by simp_all),if_neg (by simp)] at hr
  subst hr
  repeat' ((conv=>whnf);first|exact endR|(with_reducible first|apply And.intro|apply endsO_ret|apply endsO_norm|apply DLes.cons))
  all_goals (conv=>whnf)
  rw [List.nil_append,List.map_cons,List.map_nil,Cond.row_mk]
  exact rle_sl0 rfl
theorem atomsO_sem (c:Cond) (out:List Cond) (h:out.length+c.acnt≤100000):SemO Tryz.prog 34 (.sl 1 6 (out.map Cond.row)) [.agg c.row] (.sl 1 6 ((c.ats out).map Cond.row)) none:=SemO.of (atoms_sem c out h)
end Go.Proofs.YtnlbekongmkmjaaGreatDoor
namespace Go.Proofs.YtnlbekongmkmjaaGreatDoor
set_option linter.unusedSimpArgs false
set_option linter.unusedVariables false
open Go.RowKit
set_option maxRecDepth 100000
set_option maxHeartbeats 4000000
theorem bit_one {a bits:Int} (h0:0≤bits):(bitsI .and .i64 (bits / 2 ^ a.toNat) 1 == 1)=bitZ a bits:=by
 have h2:(0:Int)≤bits / 2 ^ a.toNat:=Int.ediv_nonneg h0 (Int.le_of_lt (Int.pow_pos (by decide)))
 unfold bitZ
 generalize bits / 2 ^ a.toNat=p at h2
 obtain ⟨n,rfl⟩:∃ n:Nat,p=n:=⟨p.toNat,by omega⟩
 have e:(BitVec.ofInt 64 (n:Int) &&& BitVec.ofInt 64 1).toNat=n % 2:=by
  rw [BitVec.toNat_and,show (BitVec.ofInt 64 1).toNat=1 from rfl,Nat.and_one_is_mod,BitVec.ofInt_natCast,BitVec.toNat_ofNat]
  exact Nat.mod_mod_of_dvd _ (by decide)
 show (IntKind.i64.wrap ((BitVec.ofInt 64 (n:Int) &&& BitVec.ofInt 64 1).toNat:Int) == 1)=_
 rw [e]
 rcases Nat.mod_two_eq_zero_or_one n with h|h
 ·rw [h]
  have:(n:Int) % 2=0:=by omega
  rw [this];rfl
 ·rw [h]
  have:(n:Int) % 2=1:=by omega
  rw [this];rfl
theorem indexFuncF_sem (l:List Form) (f:Nat) (cp:List D) (q:Form→Bool) (hq:∀ a ∈ l,Sem Tryz.prog f [.agg a.row,.ptr cp] (.bool (q a))):Sem Tryz.prog 116 [.sl 0 3 (l.map Form.row),.fn f [.ptr cp]] (.int .i64 (idxG q l 0)):=by
 refine sem_len 0 rfl rfl fun hl => ?_
 rw [List.length_map] at hl
 refine sem_intro (M:=fun t=>mem t [1000021,1000034,1000044]) hT hM Tryz.func116 inferInstance rfl rfl rfl rfl rfl rfl ?_
 repeat' (
  (conv=>whnf)
  first
   | ((try ((with_reducible first|apply NumE.go|apply IdxE.go|apply TextE.go|apply LookE.go|apply CallE.go);(conv=>whnf)));(with_reducible apply SideD.mk);(focus (first|exact side)))
   | ((with_reducible first|apply DrawR.go0|apply KerB.mk);(focus kernel_rfl))
   | (with_reducible first|apply ends_ret|apply ends_norm|apply Halt'.mk)
   | ((with_reducible apply CondD.mk)<;>intro hb<;>(try simp only [SPLT] at hb)<;>(try first|exact noB)))
 all_goals (try exact (false:Bool))
 refine loop_go (M:=fun t=>mem t [1000021,1000034,1000044]) hT hM (fun k:Nat => [(8,.int .i64 k)]) (fun k=>k≤l.length∧idxG q (l.drop k) k=idxG q l 0) (fun k=>l.length - k) (0) ?_ ?_ ?_
 ·(conv=>whnf)
  refine ⟨?_,by rfl⟩
  repeat' ((conv=>whnf);first|exact endF|exact endF2|with_reducible apply DLes.cons)
 ·exact ⟨Nat.zero_le _,rfl⟩
 ·rintro k ⟨hk,hi⟩
  rcases hx:l[k]? with _|a
  ·have hk':k=l.length:=by have:=List.getElem?_eq_none_iff.1 hx;omega
   subst hk'
   rw [List.drop_length] at hi
   repeat' (
    (conv=>whnf)
    first
     | ((try ((with_reducible first|apply NumE.go|apply IdxE.go|apply TextE.go|apply LookE.go|apply CallE.go);(conv=>whnf)));(with_reducible apply SideD.mk);(focus (first|exact side)))
     | ((with_reducible first|apply DrawR.go0|apply KerB.mk);(focus kernel_rfl))
     | (with_reducible first|apply ends_ret|apply ends_norm|apply Halt'.mk)
     | ((with_reducible apply CondD.mk)<;>intro hb<;>(try simp only [SPLT] at hb)<;>(try first|exact noB)))
   all_goals (try exact (false:Bool))
   repeat' ((conv=>whnf);first|exact endR|(with_reducible first|apply And.intro|apply endsO_ret|apply endsO_norm|apply DLes.cons))
   all_goals (conv=>whnf)
   exact rle_int hi
  ·have hlt:=(List.getElem?_eq_some_iff.1 hx).1
   have hc:=hq a (List.mem_of_getElem? hx)
   rw [idxG_at hx] at hi
   generalize q a=b at hc hi
   obtain ⟨k1,a1,fs1⟩:=a
   rw [Form.row_mk] at hc
   repeat' (
    (conv=>whnf)
    first
     | ((try ((with_reducible first|apply NumE.go|apply IdxE.go|apply TextE.go|apply LookE.go|apply CallE.go);(conv=>whnf)));(with_reducible apply SideD.mk);(focus (first|(exact idx_form hx rfl)|((try apply givesl);(focus (((apply gives_go (hc));(focus (exact DLes.au));(focus exact rfl);(all_goals (exact pre)))));(all_goals exact rfl))|exact side)))
     | ((with_reducible first|apply DrawR.go0|apply KerB.mk);(focus kernel_rfl))
     | (with_reducible first|apply ends_ret|apply ends_norm|apply Halt'.mk)
     | ((with_reducible apply CondD.mk)<;>intro hb<;>(try simp only [SPLT] at hb)<;>(try first|exact noB)))
   all_goals (try exact (false:Bool))
   ·repeat' ((conv=>whnf);first|exact endR|(with_reducible first|apply And.intro|apply endsO_ret|apply endsO_norm|apply DLes.cons))
    all_goals (conv=>whnf)
    exact rle_int (by rw [← hi,if_pos hb])
   ·refine ⟨k+1,⟨by omega,by rw [← hi,if_neg (by simp [hb])]⟩,by omega,?_⟩
    (conv=>whnf)
    refine ⟨?_,by rfl⟩
    repeat' ((conv=>whnf);first|exact endF|exact endF2|with_reducible apply DLes.cons)
theorem containsFuncF_sem (l:List Form) (f:Nat) (cp:List D) (q:Form→Bool) (hq:∀ a ∈ l,Sem Tryz.prog f [.agg a.row,.ptr cp] (.bool (q a))):Sem Tryz.prog 74 [.sl 0 3 (l.map Form.row),.fn f [.ptr cp]] (.bool (l.any q)):=by
 have hI:=indexFuncF_sem l f cp q hq
 refine sem_intro (M:=fun t=>mem t [1000021,1000034,1000044]) hT hM Tryz.func74 inferInstance rfl rfl rfl rfl rfl rfl ?_
 repeat' (
  (conv=>whnf)
  first
   | ((try ((with_reducible first|apply NumE.go|apply IdxE.go|apply TextE.go|apply LookE.go|apply CallE.go);(conv=>whnf)));(with_reducible apply SideD.mk);(focus (first|((try apply givesl);(focus (first|((apply gives_go (hI));(focus (exact DLes.au));(focus exact rfl);(all_goals (exact pre)))|((apply gives_go (indexFuncF_sem _ _ _ _ _));(focus (exact DLes.au));(focus exact rfl);(all_goals (exact pre)))));(all_goals exact rfl))|exact side)))
   | ((with_reducible first|apply DrawR.go0|apply KerB.mk);(focus kernel_rfl))
   | (with_reducible first|apply ends_ret|apply ends_norm|apply Halt'.mk)
   | ((with_reducible apply CondD.mk)<;>intro hb<;>(try simp only [SPLT] at hb)<;>(try first|exact noB)))
 all_goals (try exact (false:Bool))
 repeat' ((conv=>whnf);first|exact endR|(with_reducible first|apply And.intro|apply endsO_ret|apply endsO_norm|apply DLes.cons))
 all_goals (conv=>whnf)
 exact rle_bool (idxG_any q l 0 (by omega))
theorem true1_sem (x:Form) (bits:Int) (h:Sem Tryz.prog 36 [.agg x.row,.int .i64 bits] (.bool (x.tv bits))):Sem Tryz.prog 75 [.agg x.row,.ptr [.int .i64 bits]] (.bool (!x.tv bits)):=by
 generalize x.tv bits=r at h ⊢
 obtain ⟨k,a,fs⟩:=x
 rw [Form.row_mk] at h ⊢
 refine sem_intro (M:=fun t=>mem t [1000021,1000034,1000044]) hT hM Tryz.func75 inferInstance rfl rfl rfl rfl rfl rfl ?_
 repeat' (
  (conv=>whnf)
  first
   | ((try ((with_reducible first|apply NumE.go|apply IdxE.go|apply TextE.go|apply LookE.go|apply CallE.go);(conv=>whnf)));(with_reducible apply SideD.mk);(focus (first|((try apply givesl);(focus (first|((apply gives_go (h));(focus (exact DLes.au));(focus exact rfl);(all_goals (exact pre)))|((apply gives_go (true1_sem _ _));(focus (exact DLes.au));(focus exact rfl);(all_goals (exact pre)))|((apply gives_go (true2_sem _ _));(focus (exact DLes.au));(focus exact rfl);(all_goals (exact pre)))));(all_goals exact rfl))|exact side)))
   | ((with_reducible first|apply DrawR.go0|apply KerB.mk);(focus kernel_rfl))
   | (with_reducible first|apply ends_ret|apply ends_norm|apply Halt'.mk)
   | ((with_reducible apply CondD.mk)<;>intro hb<;>(try simp only [SPLT] at hb)<;>(try first|exact noB)))
 all_goals (try exact (false:Bool))
 repeat' ((conv=>whnf);first|exact endR|(with_reducible first|apply And.intro|apply endsO_ret|apply endsO_norm|apply DLes.cons))
 all_goals (conv=>whnf)
theorem true2_sem (x:Form) (bits:Int) (h:Sem Tryz.prog 36 [.agg x.row,.int .i64 bits] (.bool (x.tv bits))):Sem Tryz.prog 76 [.agg x.row,.ptr [.int .i64 bits]] (.bool (x.tv bits)):=by
 generalize x.tv bits=r at h ⊢
 obtain ⟨k,a,fs⟩:=x
 rw [Form.row_mk] at h ⊢
 refine sem_intro (M:=fun t=>mem t [1000021,1000034,1000044]) hT hM Tryz.func76 inferInstance rfl rfl rfl rfl rfl rfl ?_
 repeat' (
  (conv=>whnf)
  first
   | ((try ((with_reducible first|apply NumE.go|apply IdxE.go|apply TextE.go|apply LookE.go|apply CallE.go);(conv=>whnf)));(with_reducible apply SideD.mk);(focus (first|((try apply givesl);(focus (first|((apply gives_go (h));(focus (exact DLes.au));(focus exact rfl);(all_goals (exact pre)))|((apply gives_go (true1_sem _ _));(focus (exact DLes.au));(focus exact rfl);(all_goals (exact pre)))|((apply gives_go (true2_sem _ _));(focus (exact DLes.au));(focus exact rfl);(all_goals (exact pre)))));(all_goals exact rfl))|exact side)))
   | ((with_reducible first|apply DrawR.go0|apply KerB.mk);(focus kernel_rfl))
   | (with_reducible first|apply ends_ret|apply ends_norm|apply Halt'.mk)
   | ((with_reducible apply CondD.mk)<;>intro hb<;>(try simp only [SPLT] at hb)<;>(try first|exact noB)))
 all_goals (try exact (false:Bool))
 repeat' ((conv=>whnf);first|exact endR|(with_reducible first|apply And.intro|apply endsO_ret|apply endsO_norm|apply DLes.cons))
 all_goals (conv=>whnf)
theorem isTrue_sem (f:Form):f.Ok→∀ bits:Int,0≤bits→Sem Tryz.prog 36 [.agg f.row,.int .i64 bits] (.bool (f.tv bits)):=by
 induction f using Form.ind with
 | h k a fs ih=>
  intro hO bits h0
  obtain ⟨o1,o2,o3⟩:=hO
  have hA:=containsFuncF_sem fs 75 [.int .i64 bits] (fun x => !x.tv bits) fun x hx=>true1_sem x bits (ih x hx (o3 x hx) bits h0)
  have hB:=containsFuncF_sem fs 76 [.int .i64 bits] (fun x=>x.tv bits) fun x hx=>true2_sem x bits (ih x hx (o3 x hx) bits h0)
  have hr:=ftv_mk bits k a fs
  rw [tvA_all,tvO_any] at hr
  generalize (fs.any fun f => !f.tv bits)=qa at hA hr
  generalize (fs.any fun f=>f.tv bits)=qb at hB hr
  generalize (Form.mk k a fs).tv bits=r at hr ⊢
  rw [Form.row_mk]
  by_cases hk3:k=3
  ·subst hk3
   obtain ⟨y,hy⟩:∃ y,fs[0]?=some y:=by
    have h:=o1 rfl
    cases fs with
    | nil=>exact absurd rfl h
    | cons a t=>exact ⟨_,rfl⟩
   have ih':=ih y (List.mem_of_getElem? hy) (o3 y (List.mem_of_getElem? hy)) bits h0
   rw [if_neg (by decide),if_neg (by decide),if_pos rfl,tvH_at hy] at hr
   generalize y.tv bits=q at ih' hr
   obtain ⟨k1,a1,fs1⟩:=y
   rw [Form.row_mk] at ih'
   refine sem_intro (M:=fun t=>mem t [1000021,1000034,1000044]) hT hM Tryz.func36 inferInstance rfl rfl rfl rfl rfl rfl ?_
   repeat' (
    (conv=>whnf)
    first
     | ((try ((with_reducible first|apply NumE.go|apply IdxE.go|apply TextE.go|apply LookE.go|apply CallE.go);(conv=>whnf)));(with_reducible apply SideD.mk);(focus (first|(exact idx_form hy rfl)|((try apply givesl);(focus (first|((apply gives_go (ih'));(focus (exact DLes.au));(focus exact rfl);(all_goals (exact pre)))|((apply gives_go (true1_sem _ _));(focus (exact DLes.au));(focus exact rfl);(all_goals (exact pre)))|((first|apply gives_go (containsFuncF_sem _ _ _ _ _)|apply gives_go (true2_sem _ _));(focus (exact DLes.au));(focus exact rfl);(all_goals (exact pre)))));(all_goals exact rfl))|exact side)))
     | ((with_reducible first|apply DrawR.go0|apply KerB.mk);(focus kernel_rfl))
     | (with_reducible first|apply ends_ret|apply ends_norm|apply Halt'.mk)
     | ((with_reducible apply CondD.mk)<;>intro hb<;>(try simp only [SPLT] at hb)<;>(try first|exact noB)))
   all_goals (try exact (false:Bool))
   repeat' ((conv=>whnf);first|exact endR|(with_reducible first|apply And.intro|apply endsO_ret|apply endsO_norm|apply DLes.cons))
   all_goals (conv=>whnf)
   exact rle_bool hr.symm
  ·by_cases hk1:k=1
   ·subst hk1
    rw [if_pos rfl] at hr
    refine sem_intro (M:=fun t=>mem t [1000021,1000034,1000044]) hT hM Tryz.func36 inferInstance rfl rfl rfl rfl rfl rfl ?_
    repeat' (
     (conv=>whnf)
     first
      | ((try ((with_reducible first|apply NumE.go|apply IdxE.go|apply TextE.go|apply LookE.go|apply CallE.go);(conv=>whnf)));(with_reducible apply SideD.mk);(focus (first|((try apply givesl);(focus (first|((apply gives_go (hA));(focus (exact DLes.au));(focus exact rfl);(all_goals (exact pre)))|((apply gives_go (true1_sem _ _));(focus (exact DLes.au));(focus exact rfl);(all_goals (exact pre)))|((first|apply gives_go (containsFuncF_sem _ _ _ _ _)|apply gives_go (true2_sem _ _));(focus (exact DLes.au));(focus exact rfl);(all_goals (exact pre)))));(all_goals exact rfl))|exact side)))
      | ((with_reducible first|apply DrawR.go0|apply KerB.mk);(focus kernel_rfl))
      | (with_reducible first|apply ends_ret|apply ends_norm|apply Halt'.mk)
      | ((with_reducible apply CondD.mk)<;>intro hb<;>(try simp only [SPLT] at hb)<;>(try first|exact noB)))
    all_goals (try exact (false:Bool))
    repeat' ((conv=>whnf);first|exact endR|(with_reducible first|apply And.intro|apply endsO_ret|apply endsO_norm|apply DLes.cons))
    all_goals (conv=>whnf)
    exact rle_bool hr.symm
   ·rw [if_neg hk1] at hr
    by_cases hk2:k=2
    ·subst hk2
     rw [if_pos rfl] at hr
     refine sem_intro (M:=fun t=>mem t [1000021,1000034,1000044]) hT hM Tryz.func36 inferInstance rfl rfl rfl rfl rfl rfl ?_
     repeat' (
      (conv=>whnf)
      first
       | ((try ((with_reducible first|apply NumE.go|apply IdxE.go|apply TextE.go|apply LookE.go|apply CallE.go);(conv=>whnf)));(with_reducible apply SideD.mk);(focus (first|((try apply givesl);(focus (first|((apply gives_go (hB));(focus (exact DLes.au));(focus exact rfl);(all_goals (exact pre)))|((apply gives_go (true1_sem _ _));(focus (exact DLes.au));(focus exact rfl);(all_goals (exact pre)))|((first|apply gives_go (containsFuncF_sem _ _ _ _ _)|apply gives_go (true2_sem _ _));(focus (exact DLes.au));(focus exact rfl);(all_goals (exact pre)))));(all_goals exact rfl))|exact side)))
       | ((with_reducible first|apply DrawR.go0|apply KerB.mk);(focus kernel_rfl))
       | (with_reducible first|apply ends_ret|apply ends_norm|apply Halt'.mk)
       | ((with_reducible apply CondD.mk)<;>intro hb<;>(try simp only [SPLT] at hb)<;>(try first|exact noB)))
     all_goals (try exact (false:Bool))
     repeat' ((conv=>whnf);first|exact endR|(with_reducible first|apply And.intro|apply endsO_ret|apply endsO_norm|apply DLes.cons))
     all_goals (conv=>whnf)
     exact rle_bool hr.symm
    ·rw [if_neg hk2,if_neg hk3] at hr
     obtain ⟨p1,p2⟩:=o2 hk1 hk2 hk3
     refine sem_intro (M:=fun t=>mem t [1000021,1000034,1000044]) hT hM Tryz.func36 inferInstance rfl rfl rfl rfl rfl rfl ?_
     repeat' (
      (conv=>whnf)
      first
       | ((try ((with_reducible first|apply NumE.go|apply IdxE.go|apply TextE.go|apply LookE.go|apply CallE.go);(conv=>whnf)));(with_reducible apply SideD.mk);(focus (first|(exact ⟨p1,by show a≤64;omega,rfl⟩)|(exact rfl)|((try apply givesl);(focus (first|((apply gives_go (true1_sem _ _));(focus (exact DLes.au));(focus exact rfl);(all_goals (exact pre)))|((first|apply gives_go (containsFuncF_sem _ _ _ _ _)|apply gives_go (true2_sem _ _));(focus (exact DLes.au));(focus exact rfl);(all_goals (exact pre)))));(all_goals exact rfl))|exact side)))
       | ((with_reducible first|apply DrawR.go0|apply KerB.mk);(focus kernel_rfl))
       | (with_reducible first|apply ends_ret|apply ends_norm|apply Halt'.mk)
       | ((with_reducible apply CondD.mk)<;>intro hb<;>(try simp only [SPLT] at hb)<;>(try first|exact noB)))
     all_goals (try exact (false:Bool))
     repeat' ((conv=>whnf);first|exact endR|(with_reducible first|apply And.intro|apply endsO_ret|apply endsO_norm|apply DLes.cons))
     all_goals (conv=>whnf)
     exact rle_bool (by rw [hr,bit_one h0])
end Go.Proofs.YtnlbekongmkmjaaGreatDoor
namespace Go.Proofs.YtnlbekongmkmjaaGreatDoor
set_option linter.unusedSimpArgs false
set_option linter.unusedVariables false
open Go.RowKit
set_option maxRecDepth 100000
set_option maxHeartbeats 4000000
def idl35_7:List (List Bool) := [[false,false,false,false,false,false,false,false,false],[true,false,false,false,false,false,false,false,false],[false,false,true,false,false,false,false,false,false],[false,false,false,true,false,false,false,false,false],[true,true,false,false,false,false,false,false,false],[true,false,true,false,false,false,false,false,false],[true,false,false,true,false,false,false,false,false],[false,false,true,true,false,false,false,false,false],[true,true,true,false,false,false,false,false,false],[true,true,false,true,false,false,false,false,false],[true,false,true,true,false,false,false,false,false],[false,false,true,true,true,false,false,false,false],[true,true,true,true,false,false,false,false,false],[true,false,true,true,true,false,false,false,false],[false,false,true,true,true,true,false,false,false],[true,true,true,true,true,false,false,false,false],[true,false,true,true,true,true,false,false,false],[true,true,true,true,true,true,false,false,false],[true,true,true,true,true,true,true,false,false],[true,true,true,true,true,true,true,true,false],[true,true,true,true,true,true,true,true,true]]
/-- Own slices are given up for good ahead of a piece of code. -/
theorem ht_frzI {P:Program} (ts:List Nat) {c:Code} {fr:List D} {Q:Exit→List D→Prop} (h:forceL (ts.foldl (fun fr t=>frz1 fr (.tmp t)) fr) fun fr=>HT P c fr Q):HT P c fr Q:=by
 rw [forceL_eq] at h
 refine ⟨fun S w a hF Q' hQ => ?_⟩
 obtain ⟨S1,t1,h1⟩:=fold_sound (fun S fr t h=>frz1_sound h (.tmp t)) ts _ _ hF
 exact h.h S1 w a h1 Q' fun e fr' S' w' a' k t f=>hQ e fr' S' w' a' k (t1.trans t) f
theorem fo1_sem (x c:Cond):Sem Tryz.prog 72 [.agg x.row,.ptr c.row] (.bool (x.same c)):=by
 have h:=ruSame_sem x c
 generalize x.same c=r at h ⊢
 obtain ⟨k,ks,p,vs,lo,hi⟩:=x
 obtain ⟨k1,ks1,p1,vs1,lo1,hi1⟩:=c
 rw [Cond.row_mk,Cond.row_mk] at h ⊢
 refine sem_intro (M:=fun t=>mem t [1000021,1000034,1000044]) hT hM Tryz.func72 inferInstance rfl rfl rfl rfl rfl rfl ?_
 repeat' (
  (conv=>whnf)
  first
   | ((try ((with_reducible first|apply NumE.go|apply IdxE.go|apply TextE.go|apply LookE.go|apply CallE.go);(conv=>whnf)));(with_reducible apply SideD.mk);(focus (first|((try apply givesl);(focus (((apply gives_go (h));(focus (exact DLes.au));(focus exact rfl);(all_goals (exact pre)))));(all_goals exact rfl))|exact side)))
   | ((with_reducible first|apply DrawR.go0|apply KerB.mk);(focus kernel_rfl))
   | (with_reducible first|apply ends_ret|apply ends_norm|apply Halt'.mk)
   | ((with_reducible apply CondD.mk)<;>intro hb<;>(try simp only [SPLT] at hb)<;>(try first|exact noB)))
 all_goals (try exact (false:Bool))
 repeat' ((conv=>whnf);first|exact endR|(with_reducible first|apply And.intro|apply endsO_ret|apply endsO_norm|apply DLes.cons))
 all_goals (conv=>whnf)
/-- The list that grows in the formula: nothing yet, or one's own. -/
def cellF:Nat→List Form→D
 | 0,_=>.nil
 | s+1,acc=>.sl (s+1) 3 (acc.map Form.row)
theorem formulaOf_sem (L:List Cond) (c:Cond):c.Small→Sem Tryz.prog 35 [.sl 0 6 (L.map Cond.row),.agg c.row] (.agg (c.form L).row):=by
 induction c using Cond.ind with
 | h k ks p vs lo hi ih=>
  intro hS
  obtain ⟨s1,s2,s3⟩:=hS
  have hll:(ks.map Cond.row).length=ks.length:=List.length_map _
  have hat:=isAtom_sem k (ks.map Cond.row) p (vs.map fun s => [.str s]) lo hi
  have hI:Sem Tryz.prog 71 [.sl 0 6 (L.map Cond.row),.fn 72 [.ptr (Cond.mk k ks p vs lo hi).row]] (.int .i64 (numC L (.mk k ks p vs lo hi))):=
   indexFuncC_sem L 72 (Cond.mk k ks p vs lo hi).row (fun x=>x.same (.mk k ks p vs lo hi)) fun a _=>fo1_sem a _
  rw [Cond.row_mk] at hI
  have hr:=form_mk L k ks p vs lo hi
  generalize numC L (.mk k ks p vs lo hi)=nn at hI hr
  generalize (Cond.mk k ks p vs lo hi).form L=R at hr ⊢
  generalize isAtomB k=q at hat hr
  obtain ⟨k9,a9,fs9⟩:=R
  rw [Cond.row_mk,Form.row_mk]
  refine sem_intro (M:=fun t=>mem t [4,5,4000005,7,5000007,1000021,1000034,1000044]) hT hM Tryz.func35 inferInstance rfl rfl rfl rfl rfl rfl ?_
  repeat' (
   (conv=>whnf)
   first
    | ((with_reducible apply DrawI.at 26 idl35_7);(focus exact rfl);(focus kernel_rfl))
    | with_reducible apply ExE.go
    | ((with_reducible apply EqF.mk);(focus exact rfl))
    | with_reducible apply AndI.mk
    | with_reducible exact trivial
    | ((try ((with_reducible first|apply NumE.go|apply IdxE.go|apply TextE.go|apply LookE.go|apply CallE.go);(conv=>whnf)));(with_reducible apply SideD.mk);(focus (first|((try apply givesl);(focus (first|((apply gives_go (hat));(focus (exact DLes.au));(focus exact rfl);(all_goals (exact pre)))|((apply gives_go (hI));(focus (exact DLes.au));(focus exact rfl);(all_goals (exact pre)))|((first|apply gives_go (isAtom_sem _ _ _ _ _ _)|apply gives_go (indexFuncC_sem _ _ _ _ _));(focus (exact DLes.au));(focus exact rfl);(all_goals (exact pre)))));(all_goals exact rfl))|exact side)))
    | ((with_reducible first|apply DrawR.go0|apply KerB.mk);(focus kernel_rfl))
    | (with_reducible first|apply ends_ret|apply ends_norm|apply Halt'.mk)
    | ((with_reducible apply CondD.mk)<;>intro hb<;>(try simp only [SPLT] at hb)<;>(try first|exact noB)))
  all_goals (try exact (false:Bool))
  ·rw [if_pos (by simp_all)] at hr
   cases hr
   repeat' ((conv=>whnf);first|exact endR|(with_reducible first|apply And.intro|apply endsO_ret|apply endsO_norm|apply DLes.cons))
   all_goals (conv=>whnf)
   (first|refine rle_agg ?_|refine dle_agg ?_|skip)
   repeat' (first|exact endF|exact endF2|with_reducible apply DLes.cons|with_reducible apply dle_agg)
  ·rw [if_neg (by simp_all),forms_map] at hr
   injection hr with e1 e2 e3
   have e1:=e1.symm
   subst e1 e2
   refine loop_go (M:=fun t=>mem t [4,5,4000005,7,5000007,1000021,1000034,1000044]) hT hM (fun x:Nat × List Form × Nat => [(22,.int .i64 x.1),(5,.obj [.int .i64 k,.int .i64 0,cellF x.2.2 x.2.1])]) (fun x=>x.1≤ks.length∧x.2.1=(ks.take x.1).map (Cond.form L)∧x.2.2≤2∧(x.2.2=0→x.2.1 = [])) (fun x=>ks.length - x.1) ((0,[],0)) ?_ ?_ ?_
   ·(conv=>whnf)
    refine ⟨?_,by rfl⟩
    repeat' ((conv=>whnf);first|exact endF|exact endF2|with_reducible apply DLes.cons)
   ·exact ⟨Nat.zero_le _,rfl,by simp,by simp⟩
   ·rintro ⟨i,acc,s⟩ ⟨hi',hv,hs2,hs0⟩
    dsimp only at hi' hv hs2 hs0 ⊢
    have hacl:(acc.map Form.row).length=acc.length:=List.length_map _
    have hac2:acc.length≤1000:=by rw [hv,List.length_map,List.length_take];omega
    cases hx:ks[i]? with
    | none=>
     have hm':=List.getElem?_eq_none_iff.1 hx
     rw [List.take_of_length_le hm',← e3] at hv
     subst hv
     rcases s with _|_|_|s
     ·obtain rfl:=hs0 rfl
      repeat' (
       (conv=>whnf)
       first
        | ((with_reducible apply DrawI.at 26 idl35_7);(focus exact rfl);(focus kernel_rfl))
        | with_reducible apply ExE.go
        | ((with_reducible apply EqF.mk);(focus exact rfl))
        | with_reducible apply AndI.mk
        | with_reducible exact trivial
        | ((try ((with_reducible first|apply NumE.go|apply IdxE.go|apply TextE.go|apply LookE.go|apply CallE.go);(conv=>whnf)));(with_reducible apply SideD.mk);(focus (first|((try apply givesl);(focus (((first|apply gives_go (isAtom_sem _ _ _ _ _ _)|apply gives_go (indexFuncC_sem _ _ _ _ _));(focus (exact DLes.au));(focus exact rfl);(all_goals (exact pre)))));(all_goals exact rfl))|exact side)))
        | ((with_reducible first|apply DrawR.go0|apply KerB.mk);(focus kernel_rfl))
        | (with_reducible first|apply ends_ret|apply ends_norm|apply Halt'.mk)
        | ((with_reducible apply CondD.mk)<;>intro hb<;>(try simp only [SPLT] at hb)<;>(try first|exact noB)))
      all_goals (try exact (false:Bool))
      repeat' ((conv=>whnf);first|exact endR|(with_reducible first|apply And.intro|apply endsO_ret|apply endsO_norm|apply DLes.cons))
      all_goals (conv=>whnf)
      (first|refine rle_agg ?_|refine dle_agg ?_|skip)
      repeat' (first|exact endF|exact endF2|with_reducible apply DLes.cons|with_reducible apply dle_agg)
     ·repeat' (
       (conv=>whnf)
       first
        | ((with_reducible apply DrawI.at 26 idl35_7);(focus exact rfl);(focus kernel_rfl))
        | with_reducible apply ExE.go
        | ((with_reducible apply EqF.mk);(focus exact rfl))
        | with_reducible apply AndI.mk
        | with_reducible exact trivial
        | ((try ((with_reducible first|apply NumE.go|apply IdxE.go|apply TextE.go|apply LookE.go|apply CallE.go);(conv=>whnf)));(with_reducible apply SideD.mk);(focus (first|((try apply givesl);(focus (((first|apply gives_go (isAtom_sem _ _ _ _ _ _)|apply gives_go (indexFuncC_sem _ _ _ _ _));(focus (exact DLes.au));(focus exact rfl);(all_goals (exact pre)))));(all_goals exact rfl))|exact side)))
        | ((with_reducible first|apply DrawR.go0|apply KerB.mk);(focus kernel_rfl))
        | (with_reducible first|apply ends_ret|apply ends_norm|apply Halt'.mk)
        | ((with_reducible apply CondD.mk)<;>intro hb<;>(try simp only [SPLT] at hb)<;>(try first|exact noB)))
      all_goals (try exact (false:Bool))
      repeat' ((conv=>whnf);first|exact endR|(with_reducible first|apply And.intro|apply endsO_ret|apply endsO_norm|apply DLes.cons))
      all_goals (conv=>whnf)
      (first|refine rle_agg ?_|refine dle_agg ?_|skip)
      repeat' (first|exact endF|exact endF2|with_reducible apply DLes.cons|with_reducible apply dle_agg)
     ·repeat' (
       (conv=>whnf)
       first
        | ((with_reducible apply DrawI.at 26 idl35_7);(focus exact rfl);(focus kernel_rfl))
        | with_reducible apply ExE.go
        | ((with_reducible apply EqF.mk);(focus exact rfl))
        | with_reducible apply AndI.mk
        | with_reducible exact trivial
        | ((try ((with_reducible first|apply NumE.go|apply IdxE.go|apply TextE.go|apply LookE.go|apply CallE.go);(conv=>whnf)));(with_reducible apply SideD.mk);(focus (first|((try apply givesl);(focus (((first|apply gives_go (isAtom_sem _ _ _ _ _ _)|apply gives_go (indexFuncC_sem _ _ _ _ _));(focus (exact DLes.au));(focus exact rfl);(all_goals (exact pre)))));(all_goals exact rfl))|exact side)))
        | ((with_reducible first|apply DrawR.go0|apply KerB.mk);(focus kernel_rfl))
        | (with_reducible first|apply ends_ret|apply ends_norm|apply Halt'.mk)
        | ((with_reducible apply CondD.mk)<;>intro hb<;>(try simp only [SPLT] at hb)<;>(try first|exact noB)))
      all_goals (try exact (false:Bool))
      repeat' ((conv=>whnf);first|exact endR|(with_reducible first|apply And.intro|apply endsO_ret|apply endsO_norm|apply DLes.cons))
      all_goals (conv=>whnf)
      (first|refine rle_agg ?_|refine dle_agg ?_|skip)
      repeat' (first|exact endF|exact endF2|with_reducible apply DLes.cons|with_reducible apply dle_agg)
     ·omega
    | some x=>
     have hxm:x ∈ ks:=List.mem_of_getElem? hx
     have hlt:=(List.getElem?_eq_some_iff.1 hx).1
     have ih':=ih x hxm (s3 x hxm)
     have hv2:acc ++ [x.form L]=(ks.take (i+1)).map (Cond.form L):=by rw [take_at hx,List.map_append,List.map_cons,List.map_nil,hv]
     generalize x.form L=y at ih' hv2
     obtain ⟨k1,ks1,p1,vs1,lo1,hi1⟩:=x
     obtain ⟨k3,a3,fs3⟩:=y
     rw [Cond.row_mk,Form.row_mk] at ih'
     rcases s with _|_|_|s
     ·obtain rfl:=hs0 rfl
      repeat' (
       (conv=>whnf)
       first
        | ((with_reducible apply DrawI.at 26 idl35_7);(focus exact rfl);(focus kernel_rfl))
        | with_reducible apply ExE.go
        | ((with_reducible apply EqF.mk);(focus exact rfl))
        | with_reducible apply AndI.mk
        | with_reducible exact trivial
        | ((try ((with_reducible first|apply NumE.go|apply IdxE.go|apply TextE.go|apply LookE.go|apply CallE.go);(conv=>whnf)));(with_reducible apply SideD.mk);(focus (first|(exact idx_row hx rfl)|((try apply givesl);(focus (first|((apply gives_go (ih'));(focus (exact DLes.au));(focus exact rfl);(all_goals (exact pre)))|((first|apply gives_go (isAtom_sem _ _ _ _ _ _)|apply gives_go (indexFuncC_sem _ _ _ _ _));(focus (exact DLes.au));(focus exact rfl);(all_goals (exact pre)))));(all_goals exact rfl))|exact side)))
        | ((with_reducible first|apply DrawR.go0|apply KerB.mk);(focus kernel_rfl))
        | (with_reducible first|apply ends_ret|apply ends_norm|apply Halt'.mk)
        | ((with_reducible apply CondD.mk)<;>intro hb<;>(try simp only [SPLT] at hb)<;>(try first|exact noB)))
      all_goals (try exact (false:Bool))
      refine ⟨(i+1,_,2),⟨by dsimp only;omega,hv2,by simp,by simp⟩,by dsimp only;omega,?_⟩
      (conv=>whnf)
      refine ⟨?_,by rfl⟩
      repeat' ((conv=>whnf);first|exact endF|(exact DLe.of_eq (congrArg (fun rs=>D.obj [D.int .i64 k,D.int .i64 0,D.sl 2 3 rs]) (by rw [List.map_append,List.map_cons,List.map_nil,Form.row_mk];rfl)))|exact endF2|with_reducible apply DLes.cons)
     ·repeat' (
       (conv=>whnf)
       first
        | ((with_reducible apply DrawI.at 26 idl35_7);(focus exact rfl);(focus kernel_rfl))
        | with_reducible apply ExE.go
        | ((with_reducible apply EqF.mk);(focus exact rfl))
        | with_reducible apply AndI.mk
        | with_reducible exact trivial
        | ((try ((with_reducible first|apply NumE.go|apply IdxE.go|apply TextE.go|apply LookE.go|apply CallE.go);(conv=>whnf)));(with_reducible apply SideD.mk);(focus (first|(exact idx_row hx rfl)|((try apply givesl);(focus (first|((apply gives_go (ih'));(focus (exact DLes.au));(focus exact rfl);(all_goals (exact pre)))|((first|apply gives_go (isAtom_sem _ _ _ _ _ _)|apply gives_go (indexFuncC_sem _ _ _ _ _));(focus (exact DLes.au));(focus exact rfl);(all_goals (exact pre)))));(all_goals exact rfl))|exact side)))
        | ((with_reducible first|apply DrawR.go0|apply KerB.mk);(focus kernel_rfl))
        | (with_reducible first|apply ends_ret|apply ends_norm|apply Halt'.mk)
        | ((with_reducible apply CondD.mk)<;>intro hb<;>(try simp only [SPLT] at hb)<;>(try first|exact noB)))
      all_goals (try exact (false:Bool))
      refine ⟨(i+1,_,1),⟨by dsimp only;omega,hv2,by simp,by simp⟩,by dsimp only;omega,?_⟩
      (conv=>whnf)
      refine ⟨?_,by rfl⟩
      repeat' ((conv=>whnf);first|exact endF|(exact DLe.of_eq (congrArg (fun rs=>D.obj [D.int .i64 k,D.int .i64 0,D.sl 1 3 rs]) (by rw [List.map_append,List.map_cons,List.map_nil,Form.row_mk])))|exact endF2|with_reducible apply DLes.cons)
     ·repeat' (
       (conv=>whnf)
       first
        | ((with_reducible apply DrawI.at 26 idl35_7);(focus exact rfl);(focus kernel_rfl))
        | with_reducible apply ExE.go
        | ((with_reducible apply EqF.mk);(focus exact rfl))
        | with_reducible apply AndI.mk
        | with_reducible exact trivial
        | ((try ((with_reducible first|apply NumE.go|apply IdxE.go|apply TextE.go|apply LookE.go|apply CallE.go);(conv=>whnf)));(with_reducible apply SideD.mk);(focus (first|(exact idx_row hx rfl)|((try apply givesl);(focus (first|((apply gives_go (ih'));(focus (exact DLes.au));(focus exact rfl);(all_goals (exact pre)))|((first|apply gives_go (isAtom_sem _ _ _ _ _ _)|apply gives_go (indexFuncC_sem _ _ _ _ _));(focus (exact DLes.au));(focus exact rfl);(all_goals (exact pre)))));(all_goals exact rfl))|exact side)))
        | ((with_reducible first|apply DrawR.go0|apply KerB.mk);(focus kernel_rfl))
        | (with_reducible first|apply ends_ret|apply ends_norm|apply Halt'.mk)
        | ((with_reducible apply CondD.mk)<;>intro hb<;>(try simp only [SPLT] at hb)<;>(try first|exact noB)))
      all_goals (try exact (false:Bool))
      refine ⟨(i+1,_,2),⟨by dsimp only;omega,hv2,by simp,by simp⟩,by dsimp only;omega,?_⟩
      (conv=>whnf)
      refine ⟨?_,by rfl⟩
      repeat' ((conv=>whnf);first|exact endF|(exact DLe.of_eq (congrArg (fun rs=>D.obj [D.int .i64 k,D.int .i64 0,D.sl 2 3 rs]) (by rw [List.map_append,List.map_cons,List.map_nil,Form.row_mk])))|exact endF2|with_reducible apply DLes.cons)
     ·omega
end Go.Proofs.YtnlbekongmkmjaaGreatDoor
namespace Go.Proofs.YtnlbekongmkmjaaGreatDoor
set_option linter.unusedSimpArgs false
set_option linter.unusedVariables false
open Go.RowKit
set_option maxRecDepth 100000
set_option maxHeartbeats 4000000
def boR (b:Bool):List D := [.bool b]
def slR (t:List Bool):List D := [.sl 0 1 (t.map boR)]
def tabR (f:Form) (N i:Nat):List (List D):=((List.range i).map fun s:Nat=>boR (f.tv s))++List.replicate (N - i) (boR false)
theorem tabR_len {f:Form} {N i:Nat} (h:i≤N):(tabR f N i).length=N:=by
 unfold tabR
 rw [List.length_append,List.length_map,List.length_range,List.length_replicate]
 omega
theorem tabR_get {f:Form} {N i:Nat} (h:i < N):(tabR f N i)[i]?=some [.bool false]:=by
 unfold tabR
 rw [List.getElem?_append_right (by simp),List.length_map,List.length_range,Nat.sub_self,List.getElem?_replicate,if_pos (by omega)]
 rfl
theorem tabR_set {f:Form} {N i:Nat} (h:i < N):(tabR f N i).set i [.bool (f.tv i)]=tabR f N (i+1):=by
 unfold tabR
 rw [List.set_append_right _ _ (by simp),List.length_map,List.length_range,Nat.sub_self,show N - i=(N - (i+1))+1 by omega,List.replicate_succ,List.set_cons_zero,List.range_succ,List.map_append,List.map_cons,List.map_nil,List.append_assoc]
 rfl
theorem tabR_all {f:Form} {many:Nat}:tabR f (2 ^ many) (2 ^ many)=(tabF f many).map boR:=by
 unfold tabR tabF
 rw [Nat.sub_self,List.replicate_zero,List.append_nil,List.map_map]
 rfl
theorem shl_ok {many N:Nat} (hN:2 ^ many=N) (h:N≤4096):IntKind.i64.wrap (1 * 2 ^ ((many:Int)).toNat)=(N:Int):=by
 have e:(2:Int) ^ many=((2 ^ many:Nat):Int):=by simp
 rw [Int.toNat_natCast,Int.one_mul,e,hN,IntKind.wrap_i64]
 omega
theorem table_sem (f:Form) (hO:f.Ok) (many:Nat) (hm:many≤12):Sem Tryz.prog 19 [.agg f.row,.int .i64 many] (.sl 2 1 ((tabF f many).map boR)):=by
 rw [← tabR_all]
 obtain ⟨N,hN,hN2⟩:∃ N:Nat,2 ^ many=N∧N≤4096:=⟨_,rfl,two_pow_le hm⟩
 have hw:=shl_ok hN hN2
 have hTv:∀ bits:Nat,Sem Tryz.prog 36 [.agg f.row,.int .i64 bits] (.bool (f.tv bits)):=fun bits=>isTrue_sem f hO bits (by omega)
 have hset:∀ i,i < N→(tabR f N i).set i [.bool (f.tv i)]=tabR f N (i+1):=fun i h=>tabR_set h
 have hget:∀ i,i < N→(tabR f N i)[i]?=some [.bool false]:=fun i h=>tabR_get h
 have hz:tabR f N 0=List.replicate N [.bool false]:=by unfold tabR;simp [boR]
 have hlen:∀ i,i≤N→(tabR f N i).length=N:=fun i h=>tabR_len h
 rw [hN]
 generalize tabR f N=tr at hset hget hz hlen ⊢
 generalize (fun bits:Nat=>f.tv bits)=g at hTv hset
 obtain ⟨k,a,fs⟩:=f
 rw [Form.row_mk] at hTv ⊢
 refine sem_intro (M:=fun t=>mem t [3000005,1000021,1000034,1000044]) hT hM Tryz.func19 inferInstance rfl rfl rfl rfl rfl rfl ?_
 repeat' (
  (conv=>whnf)
  first
   | ((try ((with_reducible first|apply NumE.go|apply IdxE.go|apply TextE.go|apply LookE.go|apply CallE.go);(conv=>whnf)));(with_reducible apply SideD.mk);(focus (first|(exact ⟨by omega,by show (many:Int)≤64;omega,hw⟩)|((try apply givesl);(focus (first|((apply gives_go (true1_sem _ _));(focus (exact DLes.au));(focus exact rfl);(all_goals (exact pre)))|((apply gives_go (true2_sem _ _));(focus (exact DLes.au));(focus exact rfl);(all_goals (exact pre)))));(all_goals exact rfl))|exact side)))
   | ((with_reducible first|apply DrawR.go0|apply KerB.mk);(focus kernel_rfl))
   | (with_reducible first|apply ends_ret|apply ends_norm|apply Halt'.mk)
   | ((with_reducible apply CondD.mk)<;>intro hb<;>(try simp only [SPLT] at hb)<;>(try first|exact noB)))
 all_goals (try exact (false:Bool))
 have hzz:List.replicate ((N:Int)).toNat (zeroD [Value.bool false])=tr 0:=by rw [hz,Int.toNat_natCast];rfl
 refine loop_go (M:=fun t=>mem t [3000005,1000021,1000034,1000044]) hT hM (fun i:Nat => [(12,.int .i64 i),(5,.sl 2 1 (tr i)),(11,.int .i64 N)]) (fun i=>i≤N) (fun i=>N - i) (0) ?_ ?_ ?_
 ·(conv=>whnf)
  refine ⟨?_,by rfl⟩
  repeat' ((conv=>whnf);first|exact endF|(exact DLe.of_eq (congrArg (D.sl 2 1) hzz))|(exact dle_int (by rw [List.length_replicate,Int.toNat_natCast]))|exact endF2|with_reducible apply DLes.cons)
 ·exact Nat.zero_le _
 ·rintro i hi
  have hl:=hlen i hi
  by_cases hlt:i < N
  ·have h1:=hget i hlt
   have h2:=hset i hlt
   have h3:=hTv i
   repeat' (
    (conv=>whnf)
    first
     | ((try ((with_reducible first|apply NumE.go|apply IdxE.go|apply TextE.go|apply LookE.go|apply CallE.go);(conv=>whnf)));(with_reducible apply SideD.mk);(focus (first|((try apply givesl);(focus (first|((apply gives_go (h3));(focus (exact DLes.au));(focus exact rfl);(all_goals (exact pre)))|((apply gives_go (true1_sem _ _));(focus (exact DLes.au));(focus exact rfl);(all_goals (exact pre)))|((apply gives_go (true2_sem _ _));(focus (exact DLes.au));(focus exact rfl);(all_goals (exact pre)))));(all_goals exact rfl))|(exact ⟨by omega,h1⟩)|exact side)))
     | ((with_reducible first|apply DrawR.go0|apply KerB.mk);(focus kernel_rfl))
     | (with_reducible first|apply ends_ret|apply ends_norm|apply Halt'.mk)
     | ((with_reducible apply CondD.mk)<;>intro hb<;>(try simp only [SPLT] at hb)<;>(try first|exact noB)))
   all_goals (try exact (false:Bool))
   refine ⟨i+1,by omega,by omega,?_⟩
   (conv=>whnf)
   refine ⟨?_,by rfl⟩
   repeat' ((conv=>whnf);first|exact endF|(exact DLe.of_eq (congrArg (D.sl 2 1) h2))|exact endF2|with_reducible apply DLes.cons)
  ·obtain rfl:i=N:=by omega
   repeat' (
    (conv=>whnf)
    first
     | ((try ((with_reducible first|apply NumE.go|apply IdxE.go|apply TextE.go|apply LookE.go|apply CallE.go);(conv=>whnf)));(with_reducible apply SideD.mk);(focus (first|((try apply givesl);(focus (first|((apply gives_go (true1_sem _ _));(focus (exact DLes.au));(focus exact rfl);(all_goals (exact pre)))|((apply gives_go (true2_sem _ _));(focus (exact DLes.au));(focus exact rfl);(all_goals (exact pre)))));(all_goals exact rfl))|exact side)))
     | ((with_reducible first|apply DrawR.go0|apply KerB.mk);(focus kernel_rfl))
     | (with_reducible first|apply ends_ret|apply ends_norm|apply Halt'.mk)
     | ((with_reducible apply CondD.mk)<;>intro hb<;>(try simp only [SPLT] at hb)<;>(try first|exact noB)))
   all_goals (try exact (false:Bool))
   repeat' ((conv=>whnf);first|exact endR|(with_reducible first|apply And.intro|apply endsO_ret|apply endsO_norm|apply DLes.cons))
   all_goals (conv=>whnf)
def impB (f:List Bool) (bs:List (List Bool)):Bool:=(List.range f.length).all fun i=>f.getD i false || bs.any fun x => !x.getD i false
theorem idx_sl {l:List (List Bool)} {i:Int} {j:Nat} {t:List Bool} (h:l[j]?=some t) (hi':i=j):0≤i∧(l.map slR)[i.toNat]?=some [.sl 0 1 (t.map boR)]:=by
 subst hi'
 exact ⟨by omega,by rw [Int.toNat_natCast,List.getElem?_map,h];rfl⟩
theorem idx_bo {l:List Bool} {i:Int} {j:Nat} {b:Bool} (h:l[j]?=some b) (hi':i=j):0≤i∧(l.map boR)[i.toNat]?=some [.bool b]:=by
 subst hi'
 exact ⟨by omega,by rw [Int.toNat_natCast,List.getElem?_map,h];rfl⟩
theorem indexFuncB_sem (l:List (List Bool)) (f:Nat) (cp:List D) (q:List Bool→Bool) (hq:∀ a ∈ l,Sem Tryz.prog f [.sl 0 1 (a.map boR),.ptr cp] (.bool (q a))):Sem Tryz.prog 77 [.sl 0 1 (l.map slR),.fn f [.ptr cp]] (.int .i64 (idxG q l 0)):=by
 refine sem_len 0 rfl rfl fun hl => ?_
 rw [List.length_map] at hl
 refine sem_intro (M:=fun t=>mem t [1000021,1000034,1000044]) hT hM Tryz.func77 inferInstance rfl rfl rfl rfl rfl rfl ?_
 repeat' (
  (conv=>whnf)
  first
   | ((try ((with_reducible first|apply NumE.go|apply IdxE.go|apply TextE.go|apply LookE.go|apply CallE.go);(conv=>whnf)));(with_reducible apply SideD.mk);(focus (first|exact side)))
   | ((with_reducible first|apply DrawR.go0|apply KerB.mk);(focus kernel_rfl))
   | (with_reducible first|apply ends_ret|apply ends_norm|apply Halt'.mk)
   | ((with_reducible apply CondD.mk)<;>intro hb<;>(try simp only [SPLT] at hb)<;>(try first|exact noB)))
 all_goals (try exact (false:Bool))
 refine loop_go (M:=fun t=>mem t [1000021,1000034,1000044]) hT hM (fun k:Nat => [(8,.int .i64 k)]) (fun k=>k≤l.length∧idxG q (l.drop k) k=idxG q l 0) (fun k=>l.length - k) (0) ?_ ?_ ?_
 ·(conv=>whnf)
  refine ⟨?_,by rfl⟩
  repeat' ((conv=>whnf);first|exact endF|exact endF2|with_reducible apply DLes.cons)
 ·exact ⟨Nat.zero_le _,rfl⟩
 ·rintro k ⟨hk,hi⟩
  have hll:(l.map slR).length=l.length:=List.length_map _
  rcases hx:l[k]? with _|a
  ·have hk':k=l.length:=by have:=List.getElem?_eq_none_iff.1 hx;omega
   subst hk'
   rw [List.drop_length] at hi
   repeat' (
    (conv=>whnf)
    first
     | ((try ((with_reducible first|apply NumE.go|apply IdxE.go|apply TextE.go|apply LookE.go|apply CallE.go);(conv=>whnf)));(with_reducible apply SideD.mk);(focus (first|exact side)))
     | ((with_reducible first|apply DrawR.go0|apply KerB.mk);(focus kernel_rfl))
     | (with_reducible first|apply ends_ret|apply ends_norm|apply Halt'.mk)
     | ((with_reducible apply CondD.mk)<;>intro hb<;>(try simp only [SPLT] at hb)<;>(try first|exact noB)))
   all_goals (try exact (false:Bool))
   repeat' ((conv=>whnf);first|exact endR|(with_reducible first|apply And.intro|apply endsO_ret|apply endsO_norm|apply DLes.cons))
   all_goals (conv=>whnf)
   exact rle_int hi
  ·have hlt:=(List.getElem?_eq_some_iff.1 hx).1
   have hc:=hq a (List.mem_of_getElem? hx)
   rw [idxG_at hx] at hi
   generalize q a=b at hc hi
   repeat' (
    (conv=>whnf)
    first
     | ((try ((with_reducible first|apply NumE.go|apply IdxE.go|apply TextE.go|apply LookE.go|apply CallE.go);(conv=>whnf)));(with_reducible apply SideD.mk);(focus (first|(exact idx_sl hx rfl)|((try apply givesl);(focus (((apply gives_go (hc));(focus (exact DLes.au));(focus exact rfl);(all_goals (exact pre)))));(all_goals exact rfl))|exact side)))
     | ((with_reducible first|apply DrawR.go0|apply KerB.mk);(focus kernel_rfl))
     | (with_reducible first|apply ends_ret|apply ends_norm|apply Halt'.mk)
     | ((with_reducible apply CondD.mk)<;>intro hb<;>(try simp only [SPLT] at hb)<;>(try first|exact noB)))
   all_goals (try exact (false:Bool))
   ·repeat' ((conv=>whnf);first|exact endR|(with_reducible first|apply And.intro|apply endsO_ret|apply endsO_norm|apply DLes.cons))
    all_goals (conv=>whnf)
    exact rle_int (by rw [← hi,if_pos hb])
   ·refine ⟨k+1,⟨by omega,by rw [← hi,if_neg (by simp [hb])]⟩,by omega,?_⟩
    (conv=>whnf)
    refine ⟨?_,by rfl⟩
    repeat' ((conv=>whnf);first|exact endF|exact endF2|with_reducible apply DLes.cons)
theorem containsFuncB_sem (l:List (List Bool)) (f:Nat) (cp:List D) (q:List Bool→Bool) (hq:∀ a ∈ l,Sem Tryz.prog f [.sl 0 1 (a.map boR),.ptr cp] (.bool (q a))):Sem Tryz.prog 37 [.sl 0 1 (l.map slR),.fn f [.ptr cp]] (.bool (l.any q)):=by
 have hI:=indexFuncB_sem l f cp q hq
 refine sem_intro (M:=fun t=>mem t [1000021,1000034,1000044]) hT hM Tryz.func37 inferInstance rfl rfl rfl rfl rfl rfl ?_
 repeat' (
  (conv=>whnf)
  first
   | ((try ((with_reducible first|apply NumE.go|apply IdxE.go|apply TextE.go|apply LookE.go|apply CallE.go);(conv=>whnf)));(with_reducible apply SideD.mk);(focus (first|((try apply givesl);(focus (first|((apply gives_go (hI));(focus (exact DLes.au));(focus exact rfl);(all_goals (exact pre)))|((apply gives_go (indexFuncB_sem _ _ _ _ _));(focus (exact DLes.au));(focus exact rfl);(all_goals (exact pre)))));(all_goals exact rfl))|exact side)))
   | ((with_reducible first|apply DrawR.go0|apply KerB.mk);(focus kernel_rfl))
   | (with_reducible first|apply ends_ret|apply ends_norm|apply Halt'.mk)
   | ((with_reducible apply CondD.mk)<;>intro hb<;>(try simp only [SPLT] at hb)<;>(try first|exact noB)))
 all_goals (try exact (false:Bool))
 repeat' ((conv=>whnf);first|exact endR|(with_reducible first|apply And.intro|apply endsO_ret|apply endsO_norm|apply DLes.cons))
 all_goals (conv=>whnf)
 exact rle_bool (idxG_any q l 0 (by omega))
theorem imp1_sem (x:List Bool) (i:Nat) (h:i < x.length):Sem Tryz.prog 38 [.sl 0 1 (x.map boR),.ptr [.int .i64 i]] (.bool (!x.getD i false)):=by
 have hg:x[i]?=some (x.getD i false):=by rw [List.getD_eq_getElem?_getD,List.getElem?_eq_getElem h];rfl
 generalize x.getD i false=r at hg ⊢
 refine sem_intro (M:=fun t=>mem t [1000021,1000034,1000044]) hT hM Tryz.func38 inferInstance rfl rfl rfl rfl rfl rfl ?_
 repeat' (
  (conv=>whnf)
  first
   | ((try ((with_reducible first|apply NumE.go|apply IdxE.go|apply TextE.go|apply LookE.go|apply CallE.go);(conv=>whnf)));(with_reducible apply SideD.mk);(focus (first|(exact idx_bo hg rfl)|exact side)))
   | ((with_reducible first|apply DrawR.go0|apply KerB.mk);(focus kernel_rfl))
   | (with_reducible first|apply ends_ret|apply ends_norm|apply Halt'.mk)
   | ((with_reducible apply CondD.mk)<;>intro hb<;>(try simp only [SPLT] at hb)<;>(try first|exact noB)))
 all_goals (try exact (false:Bool))
 repeat' ((conv=>whnf);first|exact endR|(with_reducible first|apply And.intro|apply endsO_ret|apply endsO_norm|apply DLes.cons))
 all_goals (conv=>whnf)
theorem implied_sem (f:List Bool) (bs:List (List Bool)) (hl:∀ t ∈ bs,t.length=f.length):Sem Tryz.prog 20 [.sl 0 1 (f.map boR),.sl 0 1 (bs.map slR)] (.bool (impB f bs)):=by
 refine sem_len 0 rfl rfl fun hlen => ?_
 rw [List.length_map] at hlen
 have hll:(f.map boR).length=f.length:=List.length_map _
 obtain ⟨good,hgd⟩:∃ good:Nat→Bool,good=fun i=>f.getD i false || bs.any fun x => !x.getD i false:=⟨_,rfl⟩
 have hi:impB f bs=(List.range f.length).all good:=by rw [hgd];rfl
 rw [hi]
 refine sem_intro (M:=fun t=>mem t [5,2000005,1000021,1000034,1000044]) hT hM Tryz.func20 inferInstance rfl rfl rfl rfl rfl rfl ?_
 repeat' (
  (conv=>whnf)
  first
   | ((try ((with_reducible first|apply NumE.go|apply IdxE.go|apply TextE.go|apply LookE.go|apply CallE.go);(conv=>whnf)));(with_reducible apply SideD.mk);(focus ((first|(intro hc;have hc0:=hc;(try simp only [SPLT] at hc);(try refine And.intro (by first|exact hc0|exact ⟨hc0,hc0⟩|exact ⟨hc0,hc0,hc0⟩) ?_))|skip);first|((try apply givesl);(focus (((apply gives_go (containsFuncB_sem _ _ _ _ _));(focus (exact DLes.au));(focus exact rfl);(all_goals (exact pre)))));(all_goals exact rfl))|exact sideG)))
   | ((with_reducible first|apply DrawR.go0|apply KerB.mk);(focus kernel_rfl))
   | (with_reducible first|apply ends_ret|apply ends_norm|apply Halt'.mk)
   | ((with_reducible apply CondD.mk)<;>intro hb<;>(try simp only [SPLT] at hb)<;>(try first|exact noB)))
 all_goals (try exact (false:Bool))
 refine loop_go (M:=fun t=>mem t [5,2000005,1000021,1000034,1000044]) hT hM (fun i:Nat => [(9,.int .i64 i)]) (fun i=>i≤f.length∧(List.range i).all good=true) (fun i=>f.length - i) (0) ?_ ?_ ?_
 ·(conv=>whnf)
  refine ⟨?_,by rfl⟩
  repeat' ((conv=>whnf);first|exact endF|exact endF2|with_reducible apply DLes.cons)
 ·exact ⟨Nat.zero_le _,rfl⟩
 ·rintro i ⟨hi1,hi2⟩
  cases hx:f[i]? with
  | none=>
   have hm':=List.getElem?_eq_none_iff.1 hx
   obtain rfl:i=f.length:=by omega
   repeat' (
    (conv=>whnf)
    first
     | ((try ((with_reducible first|apply NumE.go|apply IdxE.go|apply TextE.go|apply LookE.go|apply CallE.go);(conv=>whnf)));(with_reducible apply SideD.mk);(focus ((first|(intro hc;have hc0:=hc;(try simp only [SPLT] at hc);(try refine And.intro (by first|exact hc0|exact ⟨hc0,hc0⟩|exact ⟨hc0,hc0,hc0⟩) ?_))|skip);first|((try apply givesl);(focus (((apply gives_go (containsFuncB_sem _ _ _ _ _));(focus (exact DLes.au));(focus exact rfl);(all_goals (exact pre)))));(all_goals exact rfl))|exact sideG)))
     | ((with_reducible first|apply DrawR.go0|apply KerB.mk);(focus kernel_rfl))
     | (with_reducible first|apply ends_ret|apply ends_norm|apply Halt'.mk)
     | ((with_reducible apply CondD.mk)<;>intro hb<;>(try simp only [SPLT] at hb)<;>(try first|exact noB)))
   all_goals (try exact (false:Bool))
   repeat' ((conv=>whnf);first|exact endR|(with_reducible first|apply And.intro|apply endsO_ret|apply endsO_norm|apply DLes.cons))
   all_goals (conv=>whnf)
   exact rle_bool hi2.symm
  | some x=>
   have hlt:=(List.getElem?_eq_some_iff.1 hx).1
   have hct:=containsFuncB_sem bs 38 [.int .i64 i] (fun x => !x.getD i false) fun t ht=>imp1_sem t i (by rw [hl t ht];exact hlt)
   have hg:good i=(x || bs.any fun x => !x.getD i false):=by
    rw [hgd]
    show (f.getD i false || _)=_
    rw [List.getD_eq_getElem?_getD,hx]
    rfl
   generalize (bs.any fun x => !x.getD i false)=q at hct hg
   have hno:good i=false→(List.range f.length).all good=false:=fun h=>by
    rw [List.all_eq_false]
    exact ⟨i,List.mem_range.2 hlt,by simp [h]⟩
   have hyes:good i=true→(List.range (i+1)).all good=true:=fun h=>by
    rw [List.range_succ,List.all_append,hi2]
    simp [h]
   generalize (List.range f.length).all good=r at hno ⊢
   repeat' (
    (conv=>whnf)
    first
     | ((try ((with_reducible first|apply NumE.go|apply IdxE.go|apply TextE.go|apply LookE.go|apply CallE.go);(conv=>whnf)));(with_reducible apply SideD.mk);(focus ((first|(intro hc;have hc0:=hc;(try simp only [SPLT] at hc);(try refine And.intro (by first|exact hc0|exact ⟨hc0,hc0⟩|exact ⟨hc0,hc0,hc0⟩) ?_))|skip);first|(exact idx_bo hx rfl)|((try apply givesl);(focus (first|((apply gives_go (hct));(focus (exact DLes.au));(focus exact rfl);(all_goals (exact pre)))|((apply gives_go (containsFuncB_sem _ _ _ _ _));(focus (exact DLes.au));(focus exact rfl);(all_goals (exact pre)))));(all_goals exact rfl))|exact sideG)))
     | ((with_reducible first|apply DrawR.go0|apply KerB.mk);(focus kernel_rfl))
     | (with_reducible first|apply ends_ret|apply ends_norm|apply Halt'.mk)
     | ((with_reducible apply CondD.mk)<;>intro hb<;>(try simp only [SPLT] at hb)<;>(try first|exact noB)))
   all_goals (try exact (false:Bool))
   ·repeat' ((conv=>whnf);first|exact endR|(with_reducible first|apply And.intro|apply endsO_ret|apply endsO_norm|apply DLes.cons))
    all_goals (conv=>whnf)
    exact rle_bool (hno (by rw [hg];revert hb;cases x<;>cases q<;>simp)).symm
   ·refine ⟨i+1,⟨by omega,hyes (by rw [hg];revert hb;cases x<;>cases q<;>simp)⟩,by omega,?_⟩
    (conv=>whnf)
    refine ⟨?_,by rfl⟩
    repeat' ((conv=>whnf);first|exact endF|exact endF2|with_reducible apply DLes.cons)
end Go.Proofs.YtnlbekongmkmjaaGreatDoor
namespace Go.Proofs.YtnlbekongmkmjaaGreatDoor
set_option linter.unusedSimpArgs false
set_option linter.unusedVariables false
open Go.RowKit
set_option maxRecDepth 100000
set_option maxHeartbeats 4000000
def formsN (l:List Cond):List Form × Int × Int:=
 if 12 < (Cond.atss l []).length then ([],0,2) else (l.map (Cond.form (Cond.atss l [])),((Cond.atss l []).length:Int),0)
theorem formulas_sem (l:List Cond) (hl:l.length≤1000) (hS:∀ c ∈ l,c.Small) (hA:Cond.acnts l≤100000):Sem Tryz.prog 18 [.sl 0 6 (l.map Cond.row)] (.tup [.sl 0 3 ((formsN l).1.map Form.row),.int .i64 (formsN l).2.1,.int .i64 (formsN l).2.2]):=by
 have hll:(l.map Cond.row).length=l.length:=List.length_map _
 unfold formsN
 generalize hAe:Cond.atss l []=A
 refine sem_intro (M:=fun t=>mem t [7,10,1000021,1000034,1000044]) hT hM Tryz.func18 inferInstance rfl rfl rfl rfl rfl rfl ?_
 repeat' (
  (conv=>whnf)
  first
   | ((try ((with_reducible first|apply NumE.go|apply IdxE.go|apply TextE.go|apply LookE.go|apply CallE.go);(conv=>whnf)));(with_reducible apply SideD.mk);(focus (first|((try apply givesl);(focus (((apply gives_go (atomsNil_sem _ _));(focus (exact DLes.au));(focus exact rfl);(all_goals (exact pre)))));(all_goals exact rfl))|exact side)))
   | ((with_reducible apply CallO.go);(conv=>whnf);(with_reducible apply SideD.mk);(focus (first|((apply giveso_go (atomsO_sem _ _ _));(focus (first|exact rfl|(simp;done)));(focus (exact DLes.au));(focus exact rfl);(all_goals (exact pre))))))
   | ((with_reducible first|apply DrawR.go0|apply KerB.mk);(focus kernel_rfl))
   | (with_reducible first|apply ends_ret|apply ends_norm|apply Halt'.mk)
   | ((with_reducible apply CondD.mk)<;>intro hb<;>(try simp only [SPLT] at hb)<;>(try first|exact noB)))
 all_goals (try exact (false:Bool))
 refine loop_go (M:=fun t=>mem t [7,10,1000021,1000034,1000044]) hT hM (fun x:Nat × List Cond => [(13,.int .i64 x.1),(5,.sl 1 6 (x.2.map Cond.row))]) (fun x=>x.1≤l.length∧x.2.length+Cond.acnts (l.drop x.1)≤100000∧Cond.atss (l.drop x.1) x.2=A) (fun x=>l.length - x.1) ((0,[])) ?_ ?_ ?_
 ·(conv=>whnf)
  refine ⟨?_,by rfl⟩
  repeat' ((conv=>whnf);first|exact endF|exact endF2|with_reducible apply DLes.cons)
 ·exact ⟨Nat.zero_le _,by simpa using hA,hAe⟩
 ·rintro ⟨i,acc⟩ ⟨hi,hm,hv⟩
  dsimp only at hi hm hv ⊢
  cases hx:l[i]? with
  | some c=>
   have hlt:=(List.getElem?_eq_some_iff.1 hx).1
   rw [atss_at hx] at hv
   rw [List.drop_eq_getElem_cons hlt,(List.getElem?_eq_some_iff.1 hx).2,acnts_cons] at hm
   have h1:=atomsO_sem c acc (by omega)
   have hl2:=ats_len c acc
   generalize c.ats acc=acc2 at h1 hv hl2
   obtain ⟨k1,ks1,p1,vs1,lo1,hi1⟩:=c
   rw [Cond.row_mk] at h1
   repeat' (
    (conv=>whnf)
    first
     | ((try ((with_reducible first|apply NumE.go|apply IdxE.go|apply TextE.go|apply LookE.go|apply CallE.go);(conv=>whnf)));(with_reducible apply SideD.mk);(focus (first|(exact idx_row hx rfl)|((try apply givesl);(focus (((apply gives_go (atomsNil_sem _ _));(focus (exact DLes.au));(focus exact rfl);(all_goals (exact pre)))));(all_goals exact rfl))|exact side)))
     | ((with_reducible apply CallO.go);(conv=>whnf);(with_reducible apply SideD.mk);(focus (first|((apply giveso_go (h1));(focus (first|exact rfl|(simp;done)));(focus (exact DLes.au));(focus exact rfl);(all_goals (exact pre))))))
     | ((with_reducible first|apply DrawR.go0|apply KerB.mk);(focus kernel_rfl))
     | (with_reducible first|apply ends_ret|apply ends_norm|apply Halt'.mk)
     | ((with_reducible apply CondD.mk)<;>intro hb<;>(try simp only [SPLT] at hb)<;>(try first|exact noB)))
   all_goals (try exact (false:Bool))
   refine ⟨(i+1,acc2),⟨by dsimp only;omega,by dsimp only;omega,hv⟩,by dsimp only;omega,?_⟩
   (conv=>whnf)
   refine ⟨?_,by rfl⟩
   repeat' ((conv=>whnf);first|exact endF|exact endF2|with_reducible apply DLes.cons)
  | none=>
   have hm':=List.getElem?_eq_none_iff.1 hx
   rw [List.drop_of_length_le hm',atss_nil] at hv
   subst hv
   have hal:(acc.map Cond.row).length=acc.length:=List.length_map _
   clear hx
   by_cases h12:12 < acc.length
   ·rw [if_pos h12]
    repeat' (
     (conv=>whnf)
     first
      | ((try ((with_reducible first|apply NumE.go|apply IdxE.go|apply TextE.go|apply LookE.go|apply CallE.go);(conv=>whnf)));(with_reducible apply SideD.mk);(focus (first|((try apply givesl);(focus (((apply gives_go (atomsNil_sem _ _));(focus (exact DLes.au));(focus exact rfl);(all_goals (exact pre)))));(all_goals exact rfl))|exact side)))
      | ((with_reducible apply CallO.go);(conv=>whnf);(with_reducible apply SideD.mk);(focus (first|((apply giveso_go (atomsO_sem _ _ _));(focus (first|exact rfl|(simp;done)));(focus (exact DLes.au));(focus exact rfl);(all_goals (exact pre))))))
      | ((with_reducible first|apply DrawR.go0|apply KerB.mk);(focus kernel_rfl))
      | (with_reducible first|apply ends_ret|apply ends_norm|apply Halt'.mk)
      | ((with_reducible apply CondD.mk)<;>intro hb<;>(try simp only [SPLT] at hb)<;>(try first|exact noB)))
    all_goals (try exact (false:Bool))
    repeat' ((conv=>whnf);first|exact endR|(with_reducible first|apply And.intro|apply endsO_ret|apply endsO_norm|apply DLes.cons))
    all_goals (conv=>whnf)
   ·rw [if_neg h12]
    dsimp only
    repeat' (
     (conv=>whnf)
     first
      | ((try ((with_reducible first|apply NumE.go|apply IdxE.go|apply TextE.go|apply LookE.go|apply CallE.go);(conv=>whnf)));(with_reducible apply SideD.mk);(focus (first|((try apply givesl);(focus (((apply gives_go (atomsNil_sem _ _));(focus (exact DLes.au));(focus exact rfl);(all_goals (exact pre)))));(all_goals exact rfl))|exact side)))
      | ((with_reducible apply CallO.go);(conv=>whnf);(with_reducible apply SideD.mk);(focus (first|((apply giveso_go (atomsO_sem _ _ _));(focus (first|exact rfl|(simp;done)));(focus (exact DLes.au));(focus exact rfl);(all_goals (exact pre))))))
      | ((with_reducible first|apply DrawR.go0|apply KerB.mk);(focus kernel_rfl))
      | (with_reducible first|apply ends_ret|apply ends_norm|apply Halt'.mk)
      | ((with_reducible apply CondD.mk)<;>intro hb<;>(try simp only [SPLT] at hb)<;>(try first|exact noB)))
    all_goals (try exact (false:Bool))
    refine ht_frzI [5] ?_
    conv=>whnf
    refine loop_go (M:=fun t=>mem t [7,10,1000021,1000034,1000044]) hT hM (fun x:Nat × List Form => [(26,.int .i64 x.1),(8,.sl 1 3 (x.2.map Form.row))]) (fun x=>x.1≤l.length∧x.2=(l.take x.1).map (Cond.form acc)) (fun x=>l.length - x.1) ((0,[])) ?_ ?_ ?_
    ·(conv=>whnf)
     refine ⟨?_,by rfl⟩
     repeat' ((conv=>whnf);first|exact endF|exact endF2|with_reducible apply DLes.cons)
    ·exact ⟨Nat.zero_le _,rfl⟩
    ·rintro ⟨j,fs⟩ ⟨hj,hv2⟩
     dsimp only at hj hv2 ⊢
     have hfl:(fs.map Form.row).length=fs.length:=List.length_map _
     have hf2:fs.length≤1000:=by rw [hv2,List.length_map,List.length_take];omega
     cases hy:l[j]? with
     | none=>
      have hm2:=List.getElem?_eq_none_iff.1 hy
      rw [List.take_of_length_le hm2] at hv2
      subst hv2
      repeat' (
       (conv=>whnf)
       first
        | ((try ((with_reducible first|apply NumE.go|apply IdxE.go|apply TextE.go|apply LookE.go|apply CallE.go);(conv=>whnf)));(with_reducible apply SideD.mk);(focus (first|((try apply givesl);(focus (((apply gives_go (atomsNil_sem _ _));(focus (exact DLes.au));(focus exact rfl);(all_goals (exact pre)))));(all_goals exact rfl))|exact side)))
        | ((with_reducible apply CallO.go);(conv=>whnf);(with_reducible apply SideD.mk);(focus (first|((apply giveso_go (atomsO_sem _ _ _));(focus (first|exact rfl|(simp;done)));(focus (exact DLes.au));(focus exact rfl);(all_goals (exact pre))))))
        | ((with_reducible first|apply DrawR.go0|apply KerB.mk);(focus kernel_rfl))
        | (with_reducible first|apply ends_ret|apply ends_norm|apply Halt'.mk)
        | ((with_reducible apply CondD.mk)<;>intro hb<;>(try simp only [SPLT] at hb)<;>(try first|exact noB)))
      all_goals (try exact (false:Bool))
      repeat' ((conv=>whnf);first|exact endR|(with_reducible first|apply And.intro|apply endsO_ret|apply endsO_norm|apply DLes.cons))
      all_goals (conv=>whnf)
      exact rle_int (by rw [hal])
     | some c=>
      have hlt:=(List.getElem?_eq_some_iff.1 hy).1
      have h1:=formulaOf_sem acc c (hS c (List.mem_of_getElem? hy))
      have hv3:fs ++ [c.form acc]=(l.take (j+1)).map (Cond.form acc):=by rw [take_at hy,List.map_append,List.map_cons,List.map_nil,hv2]
      generalize c.form acc=y at h1 hv3
      obtain ⟨k1,ks1,p1,vs1,lo1,hi1⟩:=c
      obtain ⟨k3,a3,fs3⟩:=y
      rw [Cond.row_mk,Form.row_mk] at h1
      repeat' (
       (conv=>whnf)
       first
        | ((try ((with_reducible first|apply NumE.go|apply IdxE.go|apply TextE.go|apply LookE.go|apply CallE.go);(conv=>whnf)));(with_reducible apply SideD.mk);(focus (first|(exact idx_row hy rfl)|((try apply givesl);(focus (first|((apply gives_go (h1));(focus (exact DLes.au));(focus exact rfl);(all_goals (exact pre)))|((apply gives_go (atomsNil_sem _ _));(focus (exact DLes.au));(focus exact rfl);(all_goals (exact pre)))));(all_goals exact rfl))|exact side)))
        | ((with_reducible apply CallO.go);(conv=>whnf);(with_reducible apply SideD.mk);(focus (first|((apply giveso_go (atomsO_sem _ _ _));(focus (first|exact rfl|(simp;done)));(focus (exact DLes.au));(focus exact rfl);(all_goals (exact pre))))))
        | ((with_reducible first|apply DrawR.go0|apply KerB.mk);(focus kernel_rfl))
        | (with_reducible first|apply ends_ret|apply ends_norm|apply Halt'.mk)
        | ((with_reducible apply CondD.mk)<;>intro hb<;>(try simp only [SPLT] at hb)<;>(try first|exact noB)))
      all_goals (try exact (false:Bool))
      refine ⟨(j+1,_),⟨by dsimp only;omega,hv3⟩,by dsimp only;omega,?_⟩
      (conv=>whnf)
      refine ⟨?_,by rfl⟩
      repeat' ((conv=>whnf);first|exact endF|(exact DLe.of_eq (congrArg (D.sl 1 3) (by rw [List.map_append,List.map_cons,List.map_nil,Form.row_mk])))|exact endF2|with_reducible apply DLes.cons)
end Go.Proofs.YtnlbekongmkmjaaGreatDoor
