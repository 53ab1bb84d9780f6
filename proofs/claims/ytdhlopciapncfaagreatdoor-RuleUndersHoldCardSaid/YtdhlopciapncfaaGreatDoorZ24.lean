/- Conditions: their sizes, their atoms, and short ones (plain). Conditions: their atoms, and short ones (plain). Trees of segments, and what is wrong with them (plain). Formulas: conditions whose atoms are numbers (plain). What conditions say of trees (plain). Trees are right, and what is found in them: the program (walks). Trees are right: the program (walks). What is found in trees: the program (walks). Short conditions hold of the same trees, and are short (plain). -/
import Derived.Test.YtdhlopciapncfaaGreatDoorZ17
import Derived.Test.YtdhlopciapncfaaGreatDoorZ21
import Derived.Test.YtdhlopciapncfaaGreatDoorZ23
import Derived.Test.YtdhlopciapncfaaGreatDoorZ9
import Derived.Test.YtdhlopciapncfaaGreatDoorZ19
namespace Go.Proofs.YtdhlopciapncfaaGreatDoor
set_option linter.unusedSimpArgs false
set_option linter.unusedVariables false
open Go.RowKit
def Cond.kind:Cond→Int
 |.mk k _ _ _ _ _=>k
def Cond.kids:Cond→List Cond
 |.mk _ ks _ _ _ _=>ks
mutual
def Cond.size:Cond→Nat
 |.mk _ ks _ _ _ _=>Cond.sizes ks+1
def Cond.sizes:List Cond→Nat
 |[]=>0
 |c::l=>c.size+Cond.sizes l
end
theorem size_mk (k:Int) (ks:List Cond) (p:Str) (vs:List Str) (lo hi:Int):(Cond.mk k ks p vs lo hi).size=Cond.sizes ks+1:=by rw [Cond.size]
theorem sizes_cons (c:Cond) (l:List Cond):Cond.sizes (c::l)=c.size+Cond.sizes l:=by rw [Cond.sizes]
theorem size_pos (c:Cond):1≤c.size:=by obtain ⟨k,ks,p,vs,lo,hi⟩:=c;rw [size_mk];omega
theorem len_sizes:∀ l:List Cond,l.length≤Cond.sizes l
 |[]=>Nat.zero_le _
 |c::l=>by rw [sizes_cons,List.length_cons];have:=len_sizes l;have:=size_pos c;omega
attribute [irreducible] Cond.size Cond.sizes
inductive Cond.Nice (n:Nat):Cond→Prop where
 |mk {k:Int} {ks:List Cond} {p:Str} {vs:List Str} {lo hi:Int} (h1:ks.length≤n) (h2:vs.length≤1000) (hp:p.length≤9223372036854775807) (hv:∀ v ∈ vs,v.length≤9223372036854775807)
   (hk:k=1∨k=2∨k=3→ks ≠ []) (h4:∀ x ∈ ks,x.Nice n):(Cond.mk k ks p vs lo hi).Nice n
theorem nice_small {n:Nat} (hn:n≤1000) (c:Cond):c.Nice n→c.Small:=by
 induction c using Cond.ind with
 |h k ks p vs lo hi ih=>
  rintro ⟨h1,h2,hp,hv,hk,h4⟩
  exact .mk (by omega) h2 fun x hx=>ih x hx (h4 x hx)
theorem own_ok {k:Int} {nk:Nat} {p:Str} {vs:List Str} {lo hi:Int} (h:ownErr k nk p vs lo hi=0):vs.length≤1000∧(k=1∨k=2∨k=3→nk ≠ 0):=by
 unfold ownErr at h
 split at h
 ·cases h
 ·split at h
  ·cases h
  ·rename_i hf
   have hf:formB k nk p vs.length lo hi=false:=by simpa using hf
   unfold formB usesOfB overB at hf
   simp only [Bool.or_eq_false_iff] at hf
   obtain ⟨⟨⟨⟨_,_⟩,h3⟩,_⟩,h5⟩:=hf
   refine ⟨?_,fun hk hn => ?_⟩
   ·by_cases h5:k=5
    ·subst h5
     rw [if_neg (by decide)] at h
     split at h
     ·rename_i hh
      omega
     ·rw [if_pos rfl] at h
      unfold valuesErr at h
      split at h
      ·cases h
      ·split at h
       ·cases h
       ·omega
    ·have:decide (0 < vs.length)=false:=by
      rw [Bool.and_eq_false_iff] at h3
      rcases h3 with h3|h3
      ·simp at h3;exact absurd h3 h5
      ·exact h3
     simp at this
     simp [this]
   ·subst hn
    rcases hk with rfl|rfl|rfl<;>simp at h5
theorem chks_ok {d:Int}:∀ (l:List Cond),(∀ c ∈ l,∀ n,0≤n→n≤200→c.Txt→(c.chk d n).2=0→(c.chk d n).1=n+c.size∧c.Nice 200)→∀ n,0≤n→n≤200→(∀ c ∈ l,c.Txt)→(Cond.chks l d n).2=0→(Cond.chks l d n).1=n+Cond.sizes l∧∀ c ∈ l,c.Nice 200
 |[],_,n,_,_,_,_=>by rw [chks_nil];unfold Cond.sizes;exact ⟨by simp,by simp⟩
 |c::l,hc,n,hn0,hn,ht,h=>by
  have hat:=chks_at (l:=c::l) (i:=0) (c:=c) rfl d n
  rw [List.drop_zero] at hat
  rw [hat] at h ⊢
  by_cases he:(c.chk d n).2=0
  ·rw [if_neg (by simp [he])] at h ⊢
   obtain ⟨h1,h2⟩:=hc c (by simp) n hn0 hn (ht c (by simp)) he
   have hb:=(chk_bd c d n hn).2 he
   rw [show List.drop (0+1) (c::l)=l from rfl] at h ⊢
   obtain ⟨h3,h4⟩:=chks_ok l (fun x hx=>hc x (by simp [hx])) _ (by rw [h1];omega) hb (fun x hx=>ht x (by simp [hx])) h
   refine ⟨by rw [h3,h1,sizes_cons];omega,fun x hx => ?_⟩
   rcases List.mem_cons.1 hx with rfl|hx
   ·exact h2
   ·exact h4 x hx
  ·rw [if_pos he] at h
   exact absurd h he
theorem chk_ok (c:Cond):∀ d n:Int,n≤200→0≤n→c.Txt→(c.chk d n).2=0→(c.chk d n).1=n+c.size∧c.Nice 200:=by
 induction c using Cond.ind with
 |h k ks p vs lo hi ih=>
  intro d n hn hn0 ht h
  obtain ⟨hp,hv,hks⟩:=ht
  have hb:=chk_bd (.mk k ks p vs lo hi) d n hn
  rw [chk_mk] at h hb ⊢
  split at h
  ·cases h
  ·rename_i h1
   rw [if_neg h1] at hb ⊢
   split at h
   ·rename_i he
    exact absurd h he
   ·rename_i he
    rw [if_neg he] at hb ⊢
    obtain ⟨h2,h3⟩:=chks_ok (d:=d+1) ks (fun c hc m h0 hm ht hh=>ih c hc (d+1) m hm h0 ht hh) (n+1) (by omega) (by omega) hks h
    obtain ⟨o1,o2⟩:=own_ok (by simpa using he)
    have hl:=len_sizes ks
    have h200:=hb.2 h
    refine ⟨by rw [h2,size_mk];omega,.mk (by omega) o1 hp hv (fun hk e=>o2 hk (by rw [e];rfl)) h3⟩
def isAtomB (k:Int):Bool := !(k == 1) && !(k == 2) && !(k == 3)
mutual
def Cond.acnt:Cond→Nat
 |.mk k ks _ _ _ _=>if isAtomB k=true then 1 else Cond.acnts ks
def Cond.acnts:List Cond→Nat
 |[]=>0
 |c::l=>c.acnt+Cond.acnts l
end
attribute [irreducible] Cond.acnt Cond.acnts
mutual
def Cond.ats:Cond→List Cond→List Cond
 |.mk k ks p vs lo hi,out=>if isAtomB k=true then (if hasC out (.mk k ks p vs lo hi)=true then out else out ++ [.mk k ks p vs lo hi]) else Cond.atss ks out
def Cond.atss:List Cond→List Cond→List Cond
 |[],out=>out
 |c::l,out=>Cond.atss l (c.ats out)
end
attribute [irreducible] Cond.ats Cond.atss
def addC (acc:List Cond) (y:Cond):List Cond:=if hasC acc y=true then acc else acc ++ [y]
def innerC (k:Int) (x:Cond):List Cond:=if x.kind=k then x.kids else [x]
def flatC (k:Int):List Cond→List Cond→List Cond
 |[],acc=>acc
 |x::l,acc=>flatC k l ((innerC k x).foldl addC acc)
def severalE (k:Int) (F A:List Cond) (cb:Bool) (p:Str) (vs:List Str) (lo hi:Int):Cond:=
 if F.length=1 then F.headD noneC else if cb=false then .mk k F p vs lo hi else
  if k=1 then notC (anyC [A.headD noneC,notC (A.headD noneC)]) else anyC [A.headD noneC,notC (A.headD noneC)]
def severalC (k:Int) (ks:List Cond) (p:Str) (vs:List Str) (lo hi:Int):Cond:=
 severalE k (flatC k ks []) ((Cond.mk k (flatC k ks []) p vs lo hi).ats []) (contraC (flatC k ks [])) p vs lo hi
def endC (k:Int) (ks:List Cond) (p:Str) (vs:List Str) (lo hi:Int):Cond:=
 if k=3∧(ks.headD noneC).kind=3 then (ks.headD noneC).kids.headD noneC else if k=1∨k=2 then severalC k ks p vs lo hi else .mk k ks p vs lo hi
mutual
def Cond.short:Cond→Cond
 |.mk k ks p vs lo hi=>endC k (Cond.shorts ks) p vs lo hi
def Cond.shorts:List Cond→List Cond
 |[] => []
 |c::l=>c.short::Cond.shorts l
end
attribute [irreducible] Cond.short
theorem kinds {k:Int} (ha:¬ isAtomB k=true):k=1∨k=2∨k=3:=by
 simp only [isAtomB,Bool.not_eq_true,Bool.and_eq_false_iff,Bool.not_eq_false',beq_iff_eq] at ha
 rcases ha with (h|h)|h
 ·exact .inl h
 ·exact .inr (.inl h)
 ·exact .inr (.inr h)
set_option maxRecDepth 100000
inductive Br where
 |mk (n t:Str) (els:List El) (kids:List Br)
mutual
def Br.row:Br→List D
 |.mk n t els ks => [.str n,.str t,.sl 0 1 (els.map elR),.sl 0 4 (Br.rows ks)]
def Br.rows:List Br→List (List D)
 |[] => []
 |c::l=>c.row::Br.rows l
end
theorem Br.rows_map (l:List Br):Br.rows l=l.map Br.row:=by
 induction l with
 |nil=>rw [Br.rows,List.map_nil]
 |cons c l ih=>rw [Br.rows,List.map_cons,ih]
theorem Br.row_mk (n t:Str) (els:List El) (ks:List Br):(Br.mk n t els ks).row = [.str n,.str t,.sl 0 1 (els.map elR),.sl 0 4 (ks.map Br.row)]:=by
 rw [Br.row,Br.rows_map]
attribute [irreducible] Br.row
theorem Br.ind {p:Br→Prop} (h:∀ n t els ks,(∀ x ∈ ks,p x)→p (.mk n t els ks)) (c:Br):p c:=
 Br.rec (motive_1:=p) (motive_2:=fun l=>∀ x ∈ l,p x) (fun n t els ks ih=>h n t els ks ih) (fun x hx=>by simp at hx) (fun c l h1 h2 x hx=>by
  rcases List.mem_cons.1 hx with rfl|hx
  ·exact h1
  ·exact h2 x hx) c
theorem idx_br {l:List Br} {i:Int} {j:Nat} {n t:Str} {els:List El} {ks:List Br} (h:l[j]?=some (.mk n t els ks)) (hi':i=j):0≤i∧(l.map Br.row)[i.toNat]?=some [.str n,.str t,.sl 0 1 (els.map elR),.sl 0 4 (ks.map Br.row)]:=by
 subst hi'
 refine ⟨by omega,?_⟩
 rw [Int.toNat_natCast,List.getElem?_map,h,Option.map_some,Br.row_mk]
def Br.name:Br→Str
 |.mk n _ _ _=>n
def Br.tag:Br→Str
 |.mk _ t _ _=>t
def Br.els:Br→List El
 |.mk _ _ e _=>e
def Br.kids:Br→List Br
 |.mk _ _ _ k=>k
def textErr (s:Str):Int:=if 1000 < s.length then 2 else if textB s=true then 0 else 3
def partsErr:List Str→Int
 |[]=>0
 |s::l=>if textErr s ≠ 0 then textErr s else partsErr l
def repsErr:List (List Str)→Int
 |[]=>0
 |p::l=>if p.length=0 then 9 else if 20 < p.length then 2 else if partsErr p ≠ 0 then partsErr p else repsErr l
def elErr (e:El):Int:=if e.length=0 then 9 else if 20 < e.length then 2 else repsErr e
def segElErr:List El→Int
 |[]=>0
 |e::l=>if elErr e ≠ 0 then elErr e else segElErr l
def segErr (t:Str) (els:List El):Int:=if isTagB t=false then 5 else if 50 < els.length then 2 else segElErr els
theorem partsErr_at {l:List Str} {i:Nat} {s:Str} (h:l[i]?=some s):partsErr (l.drop i)=if textErr s ≠ 0 then textErr s else partsErr (l.drop (i+1)):=by
 rw [List.drop_eq_getElem_cons (gLt h),(List.getElem?_eq_some_iff.1 h).2];rfl
theorem repsErr_at {l:List (List Str)} {i:Nat} {p:List Str} (h:l[i]?=some p):repsErr (l.drop i)=if p.length=0 then 9 else if 20 < p.length then 2 else if partsErr p ≠ 0 then partsErr p else repsErr (l.drop (i+1)):=by
 rw [List.drop_eq_getElem_cons (gLt h),(List.getElem?_eq_some_iff.1 h).2];rfl
theorem segElErr_at {l:List El} {i:Nat} {e:El} (h:l[i]?=some e):segElErr (l.drop i)=if elErr e ≠ 0 then elErr e else segElErr (l.drop (i+1)):=by
 rw [List.drop_eq_getElem_cons (gLt h),(List.getElem?_eq_some_iff.1 h).2];rfl
def headNamed:List Br→Bool
 |[]=>false
 |b::_=>b.name != []
def pathMany (n:Str) (many:Int):Int:=if n = [] then many+1 else many
mutual
def Br.chk (deep many:Int):Br→Int × Int
 |.mk n t els ks=>
  if 2000 < pathMany n many∨6 < deep then (pathMany n many,2)
  else if n ≠ []∧isNameB n=false then (pathMany n many,5)
  else if n = []∧0 < ks.length then (pathMany n many,3)
  else if n ≠ []∧(¬ (t = []∧els.length=0)∨ks.length=0∨headNamed ks=true) then (pathMany n many,3)
  else if n = [] then (pathMany n many,segErr t els)
  else Br.chks (deep+1) (pathMany n many) ks
def Br.chks (deep many:Int):List Br→Int × Int
 |[]=>(many,0)
 |b::l=>if (b.chk deep many).2 ≠ 0 then b.chk deep many else Br.chks deep (b.chk deep many).1 l
end
theorem bchk_mk (deep many:Int) (n t:Str) (els:List El) (ks:List Br):(Br.mk n t els ks).chk deep many =
  if 2000 < pathMany n many∨6 < deep then (pathMany n many,2)
  else if n ≠ []∧isNameB n=false then (pathMany n many,5)
  else if n = []∧0 < ks.length then (pathMany n many,3)
  else if n ≠ []∧(¬ (t = []∧els.length=0)∨ks.length=0∨headNamed ks=true) then (pathMany n many,3)
  else if n = [] then (pathMany n many,segErr t els)
  else Br.chks (deep+1) (pathMany n many) ks:=by rw [Br.chk]
theorem bchks_nil (deep many:Int):Br.chks deep many []=(many,0):=by rw [Br.chks]
theorem bchks_at {l:List Br} {i:Nat} {b:Br} {deep many:Int} (h:l[i]?=some b):Br.chks deep many (l.drop i)=if (b.chk deep many).2 ≠ 0 then b.chk deep many else Br.chks deep (b.chk deep many).1 (l.drop (i+1)):=by
 rw [List.drop_eq_getElem_cons (gLt h),(List.getElem?_eq_some_iff.1 h).2,Br.chks]
theorem bchks_cons (deep many:Int) (b:Br) (l:List Br):Br.chks deep many (b::l)=if (b.chk deep many).2 ≠ 0 then b.chk deep many else Br.chks deep (b.chk deep many).1 l:=by
 have:=bchks_at (l:=b::l) (i:=0) (b:=b) (deep:=deep) (many:=many) rfl
 rwa [List.drop_zero] at this
attribute [irreducible] Br.chk Br.chks
def treeErr (l:List Br):Int:=(Br.chks 0 0 l).2
inductive Br.Txt:Br→Prop where
 |mk {n t:Str} {els:List El} {ks:List Br} (h1:n.length≤9223372036854775807) (h2:t.length≤9223372036854775807) (h3:∀ e ∈ els,∀ p ∈ e,∀ s ∈ p,s.length≤9223372036854775807) (h4:∀ x ∈ ks,x.Txt) (h5:ks.length≤9223372036854775807):(Br.mk n t els ks).Txt
def insideL:List Str→List (List Br)→List (List Br)
 |[],ls=>ls
 |n::ns,ls=>insideL ns (ls.flatMap fun l=>(l.filter fun b=>b.name == n).map Br.kids)
def inside1:List Str→List Br→List (List Br)
 |[],l => [l]
 |n::ns,l=>(l.filter fun b=>b.name == n).flatMap fun b=>inside1 ns b.kids
theorem insideL_flat (ns:List Str):∀ ls:List (List Br),insideL ns ls=ls.flatMap (inside1 ns):=by
 induction ns with
 |nil=>intro ls;simp [insideL,inside1]
 |cons n ns ih=>
  intro ls
  rw [insideL,ih,List.flatMap_assoc]
  congr 1
  funext l
  rw [inside1,List.flatMap_map]
theorem insideL_one (ns:List Str) (l:List Br):insideL ns [l]=inside1 ns l:=by rw [insideL_flat];simp
def segTexts (t:Str) (els:List El) (element part:Int):List Str:=
 if element=0 then [t] else match els[(element - 1).toNat]? with
  |none => []
  |some e=>(e.filterMap fun p=>p[(max part 1 - 1).toNat]?).filter fun s=>s != []
def listTexts (tag:Str) (element part:Int) (l:List Br):List Str:=
 l.flatMap fun b=>if b.name = []∧b.tag=tag then segTexts b.tag b.els element part else []
def findTexts (names:List Str) (tag:Str) (element part:Int) (l:List Br):List Str:=(inside1 names l).flatMap (listTexts tag element part)
inductive Form where
 |mk (kind atom:Int) (of:List Form)
mutual
def Form.row:Form→List D
 |.mk k a fs => [.int .i64 k,.int .i64 a,.sl 0 3 (Form.rows fs)]
def Form.rows:List Form→List (List D)
 |[] => []
 |c::l=>c.row::Form.rows l
end
theorem Form.rows_map (l:List Form):Form.rows l=l.map Form.row:=by
 induction l with
 |nil=>rw [Form.rows,List.map_nil]
 |cons c l ih=>rw [Form.rows,List.map_cons,ih]
theorem Form.row_mk (k a:Int) (fs:List Form):(Form.mk k a fs).row = [.int .i64 k,.int .i64 a,.sl 0 3 (fs.map Form.row)]:=by
 rw [Form.row,Form.rows_map]
attribute [irreducible] Form.row
theorem Form.ind {p:Form→Prop} (h:∀ k a fs,(∀ x ∈ fs,p x)→p (.mk k a fs)) (c:Form):p c:=
 Form.rec (motive_1:=p) (motive_2:=fun l=>∀ x ∈ l,p x) (fun k a fs ih=>h k a fs ih) (fun x hx=>by simp at hx) (fun c l h1 h2 x hx=>by
  rcases List.mem_cons.1 hx with rfl|hx
  ·exact h1
  ·exact h2 x hx) c
def bitZ (a bits:Int):Bool:=bits / 2 ^ a.toNat % 2 == 1
mutual
def Form.tv (bits:Int):Form→Bool
 |.mk k a fs=>if k=1 then Form.tvA bits fs else if k=2 then Form.tvO bits fs else if k=3 then !Form.tvH bits fs else bitZ a bits
def Form.tvA (bits:Int):List Form→Bool
 |[]=>true
 |f::l=>f.tv bits && Form.tvA bits l
def Form.tvO (bits:Int):List Form→Bool
 |[]=>false
 |f::l=>f.tv bits || Form.tvO bits l
def Form.tvH (bits:Int):List Form→Bool
 |[]=>false
 |f::_=>f.tv bits
end
attribute [irreducible] Form.tv Form.tvA Form.tvO Form.tvH
inductive Form.Ok:Form→Prop where
 |mk {k a:Int} {fs:List Form} (h1:k=3→fs ≠ []) (h2:k ≠ 1→k ≠ 2→k ≠ 3→0≤a∧a≤62) (h3:∀ x ∈ fs,x.Ok):(Form.mk k a fs).Ok
mutual
def Cond.tv (L:List Cond) (bits:Int):Cond→Bool
 |.mk k ks p vs lo hi=>if k=1 then Cond.tvA L bits ks else if k=2 then Cond.tvO L bits ks else if k=3 then !Cond.tvH L bits ks else bitZ (numC L (.mk k ks p vs lo hi)) bits
def Cond.tvA (L:List Cond) (bits:Int):List Cond→Bool
 |[]=>true
 |f::l=>f.tv L bits && Cond.tvA L bits l
def Cond.tvO (L:List Cond) (bits:Int):List Cond→Bool
 |[]=>false
 |f::l=>f.tv L bits || Cond.tvO L bits l
def Cond.tvH (L:List Cond) (bits:Int):List Cond→Bool
 |[]=>false
 |f::_=>f.tv L bits
end
mutual
def Cond.form (L:List Cond):Cond→Form
 |.mk k ks p vs lo hi=>if isAtomB k=true then .mk k (numC L (.mk k ks p vs lo hi)) [] else .mk k 0 (Cond.forms L ks)
def Cond.forms (L:List Cond):List Cond→List Form
 |[] => []
 |c::l=>c.form L::Cond.forms L l
end
attribute [irreducible] Cond.tv Cond.tvA Cond.tvO Cond.tvH Cond.form Cond.forms
def kidsP (p:Str) (t:List Br):List (List Br):=if p = [] then [t] else inside1 (partsAt 47 p) t
def textsP (p:Str) (t:List Br):List Str:=findTexts (wayN p).1.1 (wayN p).1.2.1 (wayN p).1.2.2.1 (wayN p).1.2.2.2 t
def leafL (k:Int) (vs:List Str) (lo hi:Int) (l:List Str):Bool:=
 if k=4 then decide (0 < (l.length:Int)) else if k=6 then !(decide ((l.length:Int) < lo) || decide (hi < l.length)) else if k=5 then l.any (fun s=>vs.contains s) else l.any fun s=>withinB s lo hi
mutual
def Cond.holds:Cond→List Br→Bool
 |.mk k ks p vs lo hi,t=>
  if k=1 then Cond.holdsA ks t else if k=2 then Cond.holdsO ks t else if k=3 then !Cond.holdsH ks t
  else if k=7 then (kidsP p t).all fun l=>Cond.holdsH ks l
  else if k=8 then (kidsP p t).any fun l=>Cond.holdsH ks l
  else leafL k vs lo hi (textsP p t)
def Cond.holdsA:List Cond→List Br→Bool
 |[],_=>true
 |c::l,t=>c.holds t && Cond.holdsA l t
def Cond.holdsO:List Cond→List Br→Bool
 |[],_=>false
 |c::l,t=>c.holds t || Cond.holdsO l t
def Cond.holdsH:List Cond→List Br→Bool
 |[],_=>false
 |c::_,t=>c.holds t
end
theorem holds_mk (k:Int) (ks:List Cond) (p:Str) (vs:List Str) (lo hi:Int) (t:List Br):(Cond.mk k ks p vs lo hi).holds t =
  if k=1 then Cond.holdsA ks t else if k=2 then Cond.holdsO ks t else if k=3 then !Cond.holdsH ks t
  else if k=7 then (kidsP p t).all fun l=>Cond.holdsH ks l
  else if k=8 then (kidsP p t).any fun l=>Cond.holdsH ks l
  else leafL k vs lo hi (textsP p t):=by rw [Cond.holds]
theorem holdsA_all (t:List Br):∀ l:List Cond,Cond.holdsA l t=l.all fun c=>c.holds t
 |[]=>by rw [Cond.holdsA];rfl
 |c::l=>by rw [Cond.holdsA,holdsA_all t l,List.all_cons]
theorem holdsO_any (t:List Br):∀ l:List Cond,Cond.holdsO l t=l.any fun c=>c.holds t
 |[]=>by rw [Cond.holdsO];rfl
 |c::l=>by rw [Cond.holdsO,holdsO_any t l,List.any_cons]
theorem holdsH_at {l:List Cond} {c:Cond} (h:l[0]?=some c) (t:List Br):Cond.holdsH l t=c.holds t:=by
 cases l with
 |nil=>cases h
 |cons a l=>rw [Cond.holdsH];simp at h;rw [h]
attribute [irreducible] Cond.holds Cond.holdsA Cond.holdsO Cond.holdsH
mutual
def Cond.ev (v:Cond→Bool):Cond→Bool
 |.mk k ks p vs lo hi=>if k=1 then Cond.evA v ks else if k=2 then Cond.evO v ks else if k=3 then !Cond.evH v ks else v (.mk k ks p vs lo hi)
def Cond.evA (v:Cond→Bool):List Cond→Bool
 |[]=>true
 |c::l=>c.ev v && Cond.evA v l
def Cond.evO (v:Cond→Bool):List Cond→Bool
 |[]=>false
 |c::l=>c.ev v || Cond.evO v l
def Cond.evH (v:Cond→Bool):List Cond→Bool
 |[]=>false
 |c::_=>c.ev v
end
attribute [irreducible] Cond.ev Cond.evA Cond.evO Cond.evH
set_option maxHeartbeats 2000000
theorem idx_str {l:List Str} {i:Int} {j:Nat} {s:Str} (h:l[j]?=some s) (hi:i=j):0≤i∧(l.map partR)[i.toNat]?=some [.str s]:=by
 subst hi
 exact ⟨by omega,by rw [Int.toNat_natCast,List.getElem?_map,h];rfl⟩
theorem idx_rep {l:List (List Str)} {i:Int} {j:Nat} {p:List Str} (h:l[j]?=some p) (hi:i=j):0≤i∧(l.map repR)[i.toNat]?=some [.sl 0 1 (p.map partR)]:=by
 subst hi
 exact ⟨by omega,by rw [Int.toNat_natCast,List.getElem?_map,h];rfl⟩
theorem idx_el {l:List El} {i:Int} {j:Nat} {e:El} (h:l[j]?=some e) (hi:i=j):0≤i∧(l.map elR)[i.toNat]?=some [.sl 0 1 (e.map repR)]:=by
 subst hi
 exact ⟨by omega,by rw [Int.toNat_natCast,List.getElem?_map,h];rfl⟩
theorem textFault_sem (s:Str) (hs:s.length≤9223372036854775807):Sem Tryz.prog 133 [.str s] (.int .i64 (textErr s)):=by
 have h:=isTextAny_sem s
 have hr:textErr s=if 1000 < s.length then 2 else if textB s=true then 0 else 3:=rfl
 generalize textErr s=r at hr ⊢
 generalize textB s=b at h hr
 refine si [1000016] Tryz.func133 ?_
 repeat'((conv=>whnf);first|(try(first|apply eN|apply eC);conv=>whnf);apply sD;(focus first|exact gx h|(refine gx (isText_sem ?_ ?_)<;>exact pre)|(refine gx (isTextAny_sem ?_)<;>exact pre)|exact side)|apply rR|apply rE|apply rH| (apply cD<;>intro hb<;>(try simp only[SPLT]at hb)<;>try exact noB))
 all_goals try exact false
 ·rw [if_pos (by omega)] at hr
  subst hr
  exact finR
 ·subst hb
  rw [if_neg (by omega),if_neg (by simp)] at hr
  subst hr
  exact finR
 ·subst hb
  rw [if_neg (by omega),if_pos rfl] at hr
  subst hr
  exact finR
theorem elementFault_sem (e:El) (ht:∀ p ∈ e,∀ s ∈ p,s.length≤9223372036854775807):Sem Tryz.prog 109 [.agg [.sl 0 1 (e.map repR)]] (.int .i64 (elErr e)):=by
 refine sem_lenA 0 0 rfl rfl rfl fun hl => ?_
 rw [List.length_map] at hl
 have hll:(e.map repR).length=e.length:=List.length_map _
 have hr:elErr e=if e.length=0 then 9 else if 20 < e.length then 2 else repsErr e:=rfl
 generalize elErr e=r at hr ⊢
 refine si [1000016] Tryz.func109 ?_
 repeat'((conv=>whnf);first|(try(first|apply eN|apply eI|apply eC);conv=>whnf);apply sD;(focus first|(refine gx (textFault_sem ?_ ?_)<;>exact pre)|exact side)|apply rR|apply rE|apply rH| (apply cD<;>intro hb<;>(try simp only[SPLT]at hb)<;>try exact noB))
 all_goals try exact false
 ·rw [if_pos (by simpa using hb)] at hr
  subst hr
  exact finR
 ·rw [if_neg (by omega),if_pos (by omega)] at hr
  subst hr
  exact finR
 ·rw [if_neg (by omega),if_neg (by omega)] at hr
  refine loop_go (M:=fun t=>mem t [1000016]) hT hM (fun i:Nat => [(19,.int .i64 i)]) (fun i=>i≤e.length∧repsErr (e.drop i)=r) (fun i=>e.length - i) (0) ?_ ?_ ?_
  ·exact finF
  ·exact ⟨Nat.zero_le _,hr.symm⟩
  ·rintro i ⟨hi,hv⟩
   cases hx:e[i]? with
   |none=>
    have hm:=List.getElem?_eq_none_iff.1 hx
    rw [List.drop_of_length_le hm] at hv
    subst hv
    repeat'((conv=>whnf);first|(try(first|apply eN|apply eI|apply eC);conv=>whnf);apply sD;(focus first|(refine gx (textFault_sem ?_ ?_)<;>exact pre)|exact side)|apply rR|apply rE|apply rH| (apply cD<;>intro hb<;>(try simp only[SPLT]at hb)<;>try exact noB))
    all_goals try exact false
    exact finR
   |some p=>
    have hlt:=(gLt hx)
    have htp:=ht p (gMem hx)
    rw [repsErr_at hx] at hv
    have hpl:(p.map partR).length=p.length:=List.length_map _
    repeat'((conv=>whnf);first|(try(first|apply eN|apply eI|apply eC);conv=>whnf);apply sD;(focus first|(exact idx_rep hx rfl)|(refine gx (textFault_sem ?_ ?_)<;>exact pre)|exact side)|apply rR|apply rE|apply rH| (apply cD<;>intro hb<;>(try simp only[SPLT]at hb)<;>try exact noB))
    all_goals try exact false
    ·rw [if_pos (by simpa using hb)] at hv
     subst hv
     exact finR
    ·rw [if_neg (by omega),if_pos (by omega)] at hv
     subst hv
     exact finR
    ·rw [if_neg (by omega),if_neg (by omega)] at hv
     generalize hrest:repsErr (e.drop (i+1))=rest at hv
     refine loop_go (M:=fun t=>mem t [1000016]) hT hM (fun k:Nat => [(31,.int .i64 k)]) (fun k=>k≤p.length∧(if partsErr (p.drop k) ≠ 0 then partsErr (p.drop k) else rest)=r) (fun k=>p.length - k) (0) ?_ ?_ ?_
     ·exact finF
     ·exact ⟨Nat.zero_le _,by simpa using hv⟩
     ·rintro k ⟨hk,hw⟩
      cases hy:p[k]? with
      |none=>
       have hm:=List.getElem?_eq_none_iff.1 hy
       rw [List.drop_of_length_le hm,if_neg (by simp [partsErr])] at hw
       subst hw
       repeat'((conv=>whnf);first|(try(first|apply eN|apply eI|apply eC);conv=>whnf);apply sD;(focus first|(refine gx (textFault_sem ?_ ?_)<;>exact pre)|exact side)|apply rR|apply rE|apply rH| (apply cD<;>intro hb<;>(try simp only[SPLT]at hb)<;>try exact noB))
       all_goals try exact false
       refine ⟨i+1,⟨by omega,hrest⟩,by omega,?_⟩
       exact finF
      |some s=>
       have hlk:=(gLt hy)
       have hs:=textFault_sem s (htp s (gMem hy))
       rw [partsErr_at hy] at hw
       generalize textErr s=te at hs hw
       repeat'((conv=>whnf);first|(try(first|apply eN|apply eI|apply eC);conv=>whnf);apply sD;(focus first|(exact idx_str hy rfl)|exact gx hs|(refine gx (textFault_sem ?_ ?_)<;>exact pre)|exact side)|apply rR|apply rE|apply rH| (apply cD<;>intro hb<;>(try simp only[SPLT]at hb)<;>try exact noB))
       all_goals try exact false
       ·rw [if_pos hb,if_pos hb] at hw
        subst hw
        exact finR
       ·subst hb
        simp only [ne_eq,not_true_eq_false,ite_false] at hw
        refine ⟨k+1,⟨by omega,hw⟩,by omega,?_⟩
        exact finF
theorem checkSegs_sem (t:Str) (els:List El) (htl:t.length≤9223372036854775807) (ht:∀ e ∈ els,∀ p ∈ e,∀ s ∈ p,s.length≤9223372036854775807):Sem Tryz.prog 79 [.sl 0 2 [[.str t,.sl 0 1 (els.map elR)]]] (.int .i64 (segErr t els)):=by
 have h1:=isTag_sem t htl
 have hll:(els.map elR).length=els.length:=List.length_map _
 have hr:segErr t els=if isTagB t=false then 5 else if 50 < els.length then 2 else segElErr els:=rfl
 generalize segErr t els=r at hr ⊢
 generalize isTagB t=tb at h1 hr
 refine si [1000016] Tryz.func79 ?_
 repeat'((conv=>whnf);first|(try(first|apply eN|apply eI|apply eC);conv=>whnf);apply sD;(focus first|(refine gx (isTag_sem ?_ ?_)<;>exact pre)|(refine gx (elementFault_sem ?_ ?_)<;>exact pre)|exact side)|apply rR|apply rE|apply rH| (apply cD<;>intro hb<;>(try simp only[SPLT]at hb)<;>try exact noB))
 all_goals try exact false
 refine loop_go (M:=fun t=>mem t [1000016]) hT hM (fun i:Nat => [(13,.int .i64 i)]) (fun i=>i=0∨(i=1∧r=0)) (fun i=>2 - i) (0) ?_ ?_ ?_
 ·exact finF
 ·exact .inl rfl
 ·rintro i (rfl|⟨rfl,hr0⟩)
  ·repeat'((conv=>whnf);first|(try(first|apply eN|apply eI|apply eC);conv=>whnf);apply sD;(focus first|(exact ⟨by decide,rfl⟩)|exact gx h1|(refine gx (isTag_sem ?_ ?_)<;>exact pre)|(refine gx (elementFault_sem ?_ ?_)<;>exact pre)|exact side)|apply rR|apply rE|apply rH| (apply cD<;>intro hb<;>(try simp only[SPLT]at hb)<;>try exact noB))
   all_goals try exact false
   ·rw [if_pos (by simpa using hb)] at hr
    subst hr
    exact finR
   ·rw [if_neg (by simp_all),if_pos (by omega)] at hr
    subst hr
    exact finR
   ·rw [if_neg (by simp_all),if_neg (by omega)] at hr
    refine loop_go (M:=fun t=>mem t [1000016]) hT hM (fun i:Nat => [(28,.int .i64 i)]) (fun i=>i≤els.length∧segElErr (els.drop i)=r) (fun i=>els.length - i) (0) ?_ ?_ ?_
    ·exact finF
    ·exact ⟨Nat.zero_le _,hr.symm⟩
    ·rintro i ⟨hi,hv⟩
     cases hx:els[i]? with
     |none=>
      have hm:=List.getElem?_eq_none_iff.1 hx
      rw [List.drop_of_length_le hm] at hv
      repeat'((conv=>whnf);first|(try(first|apply eN|apply eI|apply eC);conv=>whnf);apply sD;(focus first|(refine gx (isTag_sem ?_ ?_)<;>exact pre)|(refine gx (elementFault_sem ?_ ?_)<;>exact pre)|exact side)|apply rR|apply rE|apply rH| (apply cD<;>intro hb<;>(try simp only[SPLT]at hb)<;>try exact noB))
      all_goals try exact false
      refine ⟨1,.inr ⟨rfl,hv.symm⟩,by omega,?_⟩
      exact finF
     |some e=>
      have hlt:=(gLt hx)
      have h2:=elementFault_sem e (ht e (gMem hx))
      rw [segElErr_at hx] at hv
      generalize elErr e=ee at h2 hv
      repeat'((conv=>whnf);first|(try(first|apply eN|apply eI|apply eC);conv=>whnf);apply sD;(focus first|(exact idx_el hx rfl)|exact gx h2|(refine gx (isTag_sem ?_ ?_)<;>exact pre)|(refine gx (elementFault_sem ?_ ?_)<;>exact pre)|exact side)|apply rR|apply rE|apply rH| (apply cD<;>intro hb<;>(try simp only[SPLT]at hb)<;>try exact noB))
      all_goals try exact false
      ·rw [if_pos hb] at hv
       subst hv
       exact finR
      ·rw [if_neg (by simpa using hb)] at hv
       refine ⟨i+1,⟨by omega,hv⟩,by omega,?_⟩
       exact finF
  ·subst hr0
   repeat'((conv=>whnf);first|(try(first|apply eN|apply eI|apply eC);conv=>whnf);apply sD;(focus first|(refine gx (isTag_sem ?_ ?_)<;>exact pre)|(refine gx (elementFault_sem ?_ ?_)<;>exact pre)|exact side)|apply rR|apply rE|apply rH| (apply cD<;>intro hb<;>(try simp only[SPLT]at hb)<;>try exact noB))
   all_goals try exact false
   exact finR
theorem isZero_sem (t:Str) (rows:List (List D)):Sem Tryz.prog 78 [.agg [.str t,.sl 0 1 rows]] (.bool (t == [] && ((rows.length:Int) == 0))):=by
 refine si [1000016] Tryz.func78 ?_
 repeat'((conv=>whnf);first|(try(first|apply eN|apply eI|apply eC);conv=>whnf);apply sD;(focus(try intro hc;have hc0:=hc;(try simp only[SPLT]at hc);try refine and0 ?_);first|exact sideG)|apply rR|apply rE|apply rH| (apply cD<;>intro hb<;>(try simp only[SPLT]at hb)<;>try exact noB))
 all_goals try exact false
 exact finR
set_option maxHeartbeats 4000000
theorem bchks_bd {d:Int}:∀ (l:List Br),(∀ c ∈ l,∀ n,n≤2000→n≤(c.chk d n).1∧((c.chk d n).2=0→(c.chk d n).1≤2000))→∀ n,n≤2000→n≤(Br.chks d n l).1∧((Br.chks d n l).2=0→(Br.chks d n l).1≤2000)
 |[],_,n,h=>by rw [bchks_nil];exact ⟨Int.le_refl _,fun _=>h⟩
 |c::l,hc,n,h=>by
  obtain ⟨h1,h2⟩:=hc c (by simp) n h
  have hat:=bchks_at (l:=c::l) (i:=0) (b:=c) (deep:=d) (many:=n) rfl
  rw [List.drop_zero] at hat
  rw [hat]
  by_cases he:(c.chk d n).2=0
  ·rw [if_neg (by simp [he])]
   obtain ⟨h3,h4⟩:=bchks_bd l (fun x hx=>hc x (by simp [hx])) _ (h2 he)
   rw [show List.drop (0+1) (c::l)=l from rfl]
   exact ⟨by omega,h4⟩
  ·rw [if_pos he]
   exact ⟨by omega,fun e=>absurd e he⟩
theorem bchk_bd (b:Br):∀ d n:Int,n≤2000→n≤(b.chk d n).1∧((b.chk d n).2=0→(b.chk d n).1≤2000):=by
 induction b using Br.ind with
 |h nm t els ks ih=>
  intro d n hn
  have hp:n≤pathMany nm n∧pathMany nm n≤n+1:=by unfold pathMany;split<;>omega
  rw [bchk_mk]
  split
  ·exact ⟨hp.1,fun e=>by cases e⟩
  ·rename_i h1
   split
   ·exact ⟨hp.1,fun e=>by cases e⟩
   ·split
    ·exact ⟨hp.1,fun e=>by cases e⟩
    ·split
     ·exact ⟨hp.1,fun e=>by cases e⟩
     ·split
      ·exact ⟨hp.1,fun _=>by dsimp only;omega⟩
      ·obtain ⟨h2,h3⟩:=bchks_bd (d:=d+1) ks (fun c hc n hn=>ih c hc (d+1) n hn) (pathMany nm n) (by omega)
       exact ⟨by omega,h3⟩
theorem branchL_sem (l:List Br) (d n:Int) (hd0:0≤d) (hd:d≤1000) (hn0:0≤n) (hn:n≤2000) (hl:l.length≤9223372036854775807) (ih:∀ x ∈ l,∀ m:Int,0≤m→m≤2000→SemO Tryz.prog 47 (.obj [.int .i64 m]) [.agg x.row,.int .i64 d] (.int .i64 (x.chk d m).2) (some (.obj [.int .i64 (x.chk d m).1]))):SemO Tryz.prog 21 (.obj [.int .i64 n]) [.sl 0 4 (l.map Br.row),.int .i64 d] (.int .i64 (Br.chks d n l).2) (some (.obj [.int .i64 (Br.chks d n l).1])):=by
 have hll:(l.map Br.row).length=l.length:=List.length_map _
 generalize hr:Br.chks d n l=r
 refine semO_intro (M:=fun t=>mem t [0,8,1000016,1000021,1000047]) hT hM Tryz.func21 inferInstance rfl rfl rfl rfl rfl rfl rfl rfl rfl ?_
 repeat'((conv=>whnf);first|(try(first|apply eN|apply eI|apply eC);conv=>whnf);apply sD;(focus first|exact side)|((with_reducible apply CallO.go);(conv=>whnf);(with_reducible apply sD);(focus (first|((apply giveso_go (branchO_sem _ _ _ _ _ _ _ _));(focus (first|exact rfl|(simp;done)));(focus (exact DLes.au));exact rfl;(all_goals (exact pre))))))|apply rR|apply rE|apply rH| (apply cD<;>intro hb<;>(try simp only[SPLT]at hb)<;>try exact noB))
 all_goals try exact false
 refine loop_go (M:=fun t=>mem t [0,8,1000016,1000021,1000047]) hT hM (fun x:Nat × Int => [(12,.int .i64 x.1),(0,.obj [.int .i64 x.2])]) (fun x=>x.1≤l.length∧0≤x.2∧x.2≤2000∧Br.chks d x.2 (l.drop x.1)=r) (fun x=>l.length - x.1) ((0,n)) ?_ ?_ ?_
 ·exact finF
 ·exact ⟨Nat.zero_le _,hn0,hn,hr⟩
 ·rintro ⟨i,m⟩ ⟨hi,hm1,hm2,hv⟩
  dsimp only at hi hm1 hm2 hv ⊢
  cases hx:l[i]? with
  |none=>
   have hm:=List.getElem?_eq_none_iff.1 hx
   rw [List.drop_of_length_le hm,bchks_nil] at hv
   subst hv
   repeat'((conv=>whnf);first|(try(first|apply eN|apply eI|apply eC);conv=>whnf);apply sD;(focus first|exact side)|((with_reducible apply CallO.go);(conv=>whnf);(with_reducible apply sD);(focus (first|((apply giveso_go (branchO_sem _ _ _ _ _ _ _ _));(focus (first|exact rfl|(simp;done)));(focus (exact DLes.au));exact rfl;(all_goals (exact pre))))))|apply rR|apply rE|apply rH| (apply cD<;>intro hb<;>(try simp only[SPLT]at hb)<;>try exact noB))
   all_goals try exact false
   exact finR
  |some x=>
   have hlt:=(gLt hx)
   obtain ⟨hb1,hb2⟩:=bchk_bd x d m hm2
   have ih':=ih x (gMem hx) m hm1 hm2
   rw [bchks_at hx] at hv
   generalize x.chk d m=y at hv ih' hb1 hb2
   obtain ⟨m2,e2⟩:=y
   obtain ⟨n1,t1,els1,ks1⟩:=x
   rw [Br.row_mk] at ih'
   dsimp only at hv ih' hb1 hb2
   repeat'((conv=>whnf);first|(try(first|apply eN|apply eI|apply eC);conv=>whnf);apply sD;(focus first|(exact idx_br hx rfl)|exact side)|((with_reducible apply CallO.go);(conv=>whnf);(with_reducible apply sD);(focus (first|((apply giveso_go (ih'));(focus (first|exact rfl|(simp;done)));(focus (exact DLes.au));exact rfl;(all_goals (exact pre))))))|apply rR|apply rE|apply rH| (apply cD<;>intro hb<;>(try simp only[SPLT]at hb)<;>try exact noB))
   all_goals try exact false
   ·rw [if_pos (by omega)] at hv
    subst hv
    exact finR
   ·rw [if_neg (by omega)] at hv
    refine ⟨(i+1,m2),⟨by dsimp only;omega,by dsimp only;omega,by dsimp only;omega,hv⟩,by dsimp only;omega,?_⟩
    exact finF
theorem branch_sem (b:Br):b.Txt→∀ d n:Int,0≤n→n≤2000→0≤d→d≤1000→SemO Tryz.prog 47 (.obj [.int .i64 n]) [.agg b.row,.int .i64 d] (.int .i64 (b.chk d n).2) (some (.obj [.int .i64 (b.chk d n).1])):=by
 induction b using Br.ind with
 |h nm t els ks ih=>
  rintro ⟨t1,t2,t3,t4,t5⟩ d n hn0 hn hd0 hd
  have h1:=isName_sem nm t1
  have h2:=isZero_sem t (els.map elR)
  have h3:=checkSegs_sem t els t2 t3
  have hll:(ks.map Br.row).length=ks.length:=List.length_map _
  have hel:(els.map elR).length=els.length:=List.length_map _
  rw [hel] at h2
  rw [bchk_mk,Br.row_mk]
  by_cases hnm:nm = []
  ·subst hnm
   have hp:pathMany [] n=n+1:=if_pos rfl
   rw [hp]
   generalize segErr t els=se at h3 ⊢
   generalize hr:(if 2000 < n+1∨6 < d then (n+1,(2:Int)) else if ([]:Str) ≠ []∧isNameB []=false then (n+1,5) else if ([]:Str) = []∧0 < ks.length then (n+1,3) else if ([]:Str) ≠ []∧(¬ (t = []∧els.length=0)∨ks.length=0∨headNamed ks=true) then (n+1,3) else if ([]:Str) = [] then (n+1,se) else Br.chks (d+1) (n+1) ks)=r
   refine semO_intro (M:=fun t=>mem t [0,1000016,1000021,1000047]) hT hM Tryz.func47 inferInstance rfl rfl rfl rfl rfl rfl rfl rfl rfl ?_
   repeat'((conv=>whnf);first|(try(first|apply eN|apply eI|apply eC);conv=>whnf);apply sD;(focus(try intro hc;have hc0:=hc;(try simp only[SPLT]at hc);try refine and0 ?_);first|(exact show 0≤_∧_=some [D.str [],D.str [],D.sl 0 1 [],D.sl 0 4 []] from absurd hc0 (by simp))|exact gx h3|exact gx h1|exact gx h2|(refine gx (isName_sem ?_ ?_)<;>exact pre)|(refine gx (isZero_sem ?_ ?_)<;>exact pre)|(refine gx (checkSegs_sem ?_ ?_ ?_ ?_)<;>exact pre)|exact sideG)|((with_reducible apply CallO.go);(conv=>whnf);(with_reducible apply sD);(focus (first|((apply giveso_go (branchL_sem _ _ _ _ _ _ _ _ _));(focus (first|exact rfl|(simp;done)));(focus (exact DLes.au));exact rfl;(all_goals (exact pre))))))|apply rR|apply rE|apply rH| (apply cD<;>intro hb<;>(try simp only[SPLT]at hb)<;>try exact noB))
   all_goals try exact false
   ·rw [if_pos hb] at hr
    subst hr
    exact finR
   ·rw [if_neg (by omega),if_neg (by simp),if_pos ⟨rfl,by omega⟩] at hr
    subst hr
    exact finR
   ·rename_i g1 g2 g3 g4 g5
    rw [if_neg (by omega),if_neg (by simp),if_neg (fun h=>by have:=h.2;rcases g4 with g|g;exact g trivial;omega),if_neg (by simp),if_pos rfl] at hr
    subst hr
    exact finR
  ·have hp:pathMany nm n=n:=if_neg hnm
   rw [hp]
   obtain ⟨y,hy⟩:∃ y:Br,0 < ks.length→ks[0]?=some y:=⟨ks[0]?.getD (.mk [] [] [] []),fun h=>by rw [List.getElem?_eq_getElem h];rfl⟩
   have h4:d≤6→SemO Tryz.prog 21 (.obj [.int .i64 n]) [.sl 0 4 (ks.map Br.row),.int .i64 (d+1)] (.int .i64 (Br.chks (d+1) n ks).2) (some (.obj [.int .i64 (Br.chks (d+1) n ks).1])):=fun h=>
    branchL_sem ks (d+1) n (by omega) (by omega) hn0 hn t5 fun x hx m m0 m1=>ih x hx (t4 x hx) (d+1) m m0 m1 (by omega) (by omega)
   generalize isNameB nm=nb at h1 ⊢
   generalize Br.chks (d+1) n ks=ck at h4 ⊢
   generalize hr:(if 2000 < n∨6 < d then (n,(2:Int)) else if nm ≠ []∧nb=false then (n,5) else if nm = []∧0 < ks.length then (n,3) else if nm ≠ []∧(¬ (t = []∧els.length=0)∨ks.length=0∨headNamed ks=true) then (n,3) else if nm = [] then (n,segErr t els) else ck)=r
   obtain ⟨yn,yt,ye,yk⟩:=y
   have hnh:ks.length ≠ 0→headNamed ks=(yn != []):=fun h=>by
    cases ks with
    |nil=>exact absurd rfl h
    |cons z l=>
     have hz:=hy (by simp)
     simp at hz
     subst hz
     rfl
   refine semO_intro (M:=fun t=>mem t [0,1000016,1000021,1000047]) hT hM Tryz.func47 inferInstance rfl rfl rfl rfl rfl rfl rfl rfl rfl ?_
   repeat'((conv=>whnf);first|(try(first|apply eN|apply eI|apply eC);conv=>whnf);apply sD;(focus(try intro hc;have hc0:=hc;(try simp only[SPLT]at hc);try refine and0 ?_);first|(exact idx_br (hy (by omega)) rfl)|exact gx h1|exact gx h2|(refine gx (isName_sem ?_ ?_)<;>exact pre)|(refine gx (isZero_sem ?_ ?_)<;>exact pre)|(refine gx (checkSegs_sem ?_ ?_ ?_ ?_)<;>exact pre)|exact sideG)|((with_reducible apply CallO.go);(conv=>whnf);(with_reducible apply sD);(focus (first|((apply giveso_go (h4 (by omega)));(focus (first|exact rfl|(simp;done)));(focus (exact DLes.au));exact rfl;(all_goals (exact pre))))))|apply rR|apply rE|apply rH| (apply cD<;>intro hb<;>(try simp only[SPLT]at hb)<;>try exact noB))
   all_goals try exact false
   ·rw [if_pos hb] at hr
    subst hr
    exact finR
   ·rw [if_neg (by omega),if_pos hb] at hr
    subst hr
    exact finR
   ·exact absurd hb.1 hnm
   ·rename_i g1 g2 g3 g4
    have g3:nb=true:=g3.resolve_left hnm
    have hq:¬ (t = []∧els.length=0)∨ks.length=0∨headNamed ks=true:=by
     rcases hb.2 with ((h|h)|h)|h
     ·exact .inl fun e=>h e.1
     ·exact .inl fun e=>h (by omega)
     ·exact .inr (.inl (by omega))
     ·by_cases hk:ks.length=0
      ·exact .inr (.inl hk)
      ·exact .inr (.inr (by rw [hnh hk];simpa using h))
    rw [if_neg (by omega),if_neg (by simp [g3]),if_neg (fun h=>hnm h.1),if_pos ⟨hnm,hq⟩] at hr
    subst hr
    exact finR
   ·rename_i g1 g2 g3 g4 g5
    have g3:nb=true:=g3.resolve_left hnm
    obtain ⟨⟨⟨q1,q2⟩,q3⟩,q4⟩:=g5.resolve_left hnm
    have hq:¬ (nm ≠ []∧(¬ (t = []∧els.length=0)∨ks.length=0∨headNamed ks=true)):=by
     rintro ⟨_,h|h|h⟩
     ·exact h ⟨q1,by omega⟩
     ·omega
     ·rw [hnh (by omega),q4] at h
      cases h
    rw [if_neg (by omega),if_neg (by simp [g3]),if_neg (fun h=>hnm h.1),if_neg hq,if_neg hnm] at hr
    subst hr
    exact finR
theorem branchO_sem (b:Br) (hb:b.Txt) (d n:Int) (h0:0≤n) (h1:n≤2000) (h2:0≤d) (h3:d≤1000):SemO Tryz.prog 47 (.obj [.int .i64 n]) [.agg b.row,.int .i64 d] (.int .i64 (b.chk d n).2) (some (.obj [.int .i64 (b.chk d n).1])):=branch_sem b hb d n h0 h1 h2 h3
theorem checkTree_sem (l:List Br) (hl:l.length≤9223372036854775807) (ht:∀ b ∈ l,b.Txt):Sem Tryz.prog 12 [.sl 0 4 (l.map Br.row)] (.int .i64 (treeErr l)):=by
 have h:=branchL_sem l 0 0 (by omega) (by omega) (by omega) (by omega) hl fun x hx m h0 h1=>branch_sem x (ht x hx) 0 m h0 h1 (by omega) (by omega)
 unfold treeErr
 generalize Br.chks 0 0 l=y at h ⊢
 obtain ⟨m,e⟩:=y
 dsimp only at h ⊢
 refine si [4,1000016,1000021,1000047] Tryz.func12 ?_
 repeat'((conv=>whnf);first|(try(first|apply eN|apply eC);conv=>whnf);apply sD;(focus first|exact side)|((with_reducible apply CallO.go);(conv=>whnf);(with_reducible apply sD);(focus (first|((apply giveso_go (h));(focus (first|exact rfl|(simp;done)));(focus (exact DLes.au));exact rfl;(all_goals (exact pre))))))|apply rR|apply rE|apply rH| (apply cD<;>intro hb<;>(try simp only[SPLT]at hb)<;>try exact noB))
 all_goals try exact false
 exact finR
def klR (l:List Br):List D := [.sl 0 4 (l.map Br.row)]
mutual
def Br.size:Br→Nat
 |.mk _ _ _ ks=>Br.sizes ks+1
def Br.sizes:List Br→Nat
 |[]=>0
 |b::l=>b.size+Br.sizes l
end
theorem bsize_mk (n t:Str) (els:List El) (ks:List Br):(Br.mk n t els ks).size=Br.sizes ks+1:=by rw [Br.size]
theorem bsizes_nil:Br.sizes []=0:=by rw [Br.sizes]
theorem bsizes_cons (b:Br) (l:List Br):Br.sizes (b::l)=b.size+Br.sizes l:=by rw [Br.sizes]
attribute [irreducible] Br.size Br.sizes
theorem blen_sizes:∀ l:List Br,l.length≤Br.sizes l
 |[]=>Nat.zero_le _
 |⟨n,t,els,ks⟩::l=>by rw [bsizes_cons,bsize_mk,List.length_cons];have:=blen_sizes l;omega
theorem bmem_sizes:∀ {l:List Br} {b:Br},b ∈ l→b.size≤Br.sizes l
 |c::l,b,h=>by
  rw [bsizes_cons]
  rcases List.mem_cons.1 h with rfl|h
  ·omega
  ·have:=bmem_sizes h;omega
theorem right_sizes {d:Int}:∀ (l:List Br),(∀ b ∈ l,∀ m,(b.chk d m).2=0→(b.size:Int)≤((b.chk d m).1 - m) * (8 - d)∧m+1≤(b.chk d m).1)→∀ m,(Br.chks d m l).2=0→(Br.sizes l:Int)≤((Br.chks d m l).1 - m) * (8 - d)∧m+l.length≤(Br.chks d m l).1
 |[],_,m,_=>by rw [bchks_nil,bsizes_nil];simp
 |b::l,hb,m,h=>by
  rw [bchks_cons] at h ⊢
  by_cases he:(b.chk d m).2=0
  ·rw [if_neg (by simp [he])] at h ⊢
   obtain ⟨h1,h2⟩:=hb b (by simp) m he
   obtain ⟨h3,h4⟩:=right_sizes l (fun x hx=>hb x (by simp [hx])) _ h
   rw [bsizes_cons,List.length_cons]
   refine ⟨?_,by omega⟩
   have e:((Br.chks d (b.chk d m).1 l).1 - m) * (8 - d)=((Br.chks d (b.chk d m).1 l).1 - (b.chk d m).1) * (8 - d)+((b.chk d m).1 - m) * (8 - d):=by
    rw [← Int.add_mul]
    congr 1
    omega
   rw [e]
   omega
  ·rw [if_pos he] at h
   exact absurd h he
theorem right_size (b:Br):∀ d m:Int,(b.chk d m).2=0→(b.size:Int)≤((b.chk d m).1 - m) * (8 - d)∧m+1≤(b.chk d m).1:=by
 induction b using Br.ind with
 |h n t els ks ih=>
  intro d m h
  rw [bsize_mk]
  rw [bchk_mk] at h ⊢
  split at h
  ·cases h
  ·rename_i h1
   rw [if_neg h1]
   split at h
   ·cases h
   ·rename_i h2
    rw [if_neg h2]
    split at h
    ·cases h
    ·rename_i h3
     rw [if_neg h3]
     split at h
     ·cases h
     ·rename_i h4
      rw [if_neg h4]
      split at h
      ·rename_i h5
       rw [if_pos h5]
       have hk:ks = []:=List.length_eq_zero_iff.1 (by simp only [h5,true_and] at h3;omega)
       have hp:pathMany n m=m+1:=by unfold pathMany;rw [if_pos h5]
       rw [hp,hk,bsizes_nil]
       dsimp only
       rw [show m+1 - m=1 by omega,Int.one_mul]
       omega
      ·rename_i h5
       rw [if_neg h5]
       have hp:pathMany n m=m:=by unfold pathMany;rw [if_neg h5]
       rw [hp] at h ⊢
       obtain ⟨g1,g2⟩:=right_sizes (d:=d+1) ks (fun b hb m hm=>ih b hb (d+1) m hm) m h
       have hk:ks.length ≠ 0:=fun e=>h4 ⟨h5,.inr (.inl e)⟩
       refine ⟨?_,by omega⟩
       generalize (Br.chks (d+1) m ks).1=c at g1 g2 ⊢
       have e:(c - m) * (8 - d)=(c - m) * (8 - (d+1))+(c - m):=by
        rw [show 8 - d=(8 - (d+1))+1 by omega,Int.mul_add,Int.mul_one]
       rw [e]
       omega
theorem tree_sizes {l:List Br} (h:treeErr l=0):Br.sizes l≤16000:=by
 obtain ⟨h1,_⟩:=right_sizes (d:=0) l (fun b _ m hm=>right_size b 0 m hm) 0 h
 obtain ⟨_,h2⟩:=bchks_bd (d:=0) l (fun c _ n hn=>bchk_bd c 0 n hn) 0 (by omega)
 have h2:=h2 h
 omega
def filtL (n:Str) (l:List Br):List (List Br):=(l.filter fun b=>b.name == n).map Br.kids
def stepL (n:Str) (ls:List (List Br)):List (List Br):=ls.flatMap (filtL n)
theorem filtL_at {n:Str} {l:List Br} {m:Nat} {b:Br} (h:l[m]?=some b):filtL n (l.drop m)=if b.name=n then b.kids::filtL n (l.drop (m+1)) else filtL n (l.drop (m+1)):=by
 unfold filtL
 rw [List.drop_eq_getElem_cons (gLt h),(List.getElem?_eq_some_iff.1 h).2,List.filter_cons]
 by_cases e:b.name=n
 ·rw [if_pos (by simpa using e),if_pos e];rfl
 ·rw [if_neg (by simpa using e),if_neg e]
theorem filtL_yes {n n1 t:Str} {els:List El} {ks:List Br} {l:List Br} {m:Nat} (h:l[m]?=some (.mk n1 t els ks)) (e:n1=n):filtL n (l.drop m)=ks::filtL n (l.drop (m+1)):=(filtL_at h).trans (if_pos e)
theorem filtL_no {n n1 t:Str} {els:List El} {ks:List Br} {l:List Br} {m:Nat} (h:l[m]?=some (.mk n1 t els ks)) (e:¬ n1=n):filtL n (l.drop m)=filtL n (l.drop (m+1)):=(filtL_at h).trans (if_neg e)
theorem stepL_at {n:Str} {ls:List (List Br)} {k:Nat} {l:List Br} (h:ls[k]?=some l):stepL n (ls.drop k)=filtL n l++stepL n (ls.drop (k+1)):=by
 unfold stepL
 rw [List.drop_eq_getElem_cons (gLt h),(List.getElem?_eq_some_iff.1 h).2,List.flatMap_cons]
def lszs:List (List Br)→Nat
 |[]=>0
 |l::ls=>1+Br.sizes l+lszs ls
theorem lszs_app:∀ a b:List (List Br),lszs (a++b)=lszs a+lszs b
 |[],b=>by simp [lszs]
 |l::a,b=>by rw [List.cons_append,lszs,lszs,lszs_app a b];omega
theorem lszs_len:∀ ls:List (List Br),ls.length≤lszs ls
 |[]=>Nat.le_refl _
 |l::ls=>by rw [lszs,List.length_cons];have:=lszs_len ls;omega
theorem lszs_mem:∀ {ls:List (List Br)} {l:List Br},l ∈ ls→Br.sizes l≤lszs ls
 |m::ls,l,h=>by
  rw [lszs]
  rcases List.mem_cons.1 h with rfl|h
  ·omega
  ·have:=lszs_mem h;omega
theorem filtL_sz (n:Str):∀ l:List Br,lszs (filtL n l)≤Br.sizes l
 |[]=>by simp [filtL,lszs]
 |⟨n1,t,els,ks⟩::l=>by
  have ih:=filtL_sz n l
  have hat:=filtL_at (n:=n) (l:=⟨n1,t,els,ks⟩::l) (m:=0) rfl
  rw [List.drop_zero] at hat
  rw [hat,bsizes_cons,bsize_mk]
  show lszs (if n1=n then ks::filtL n l else filtL n l)≤_
  split
  ·rw [lszs];omega
  ·omega
theorem stepL_sz (n:Str):∀ ls:List (List Br),lszs (stepL n ls)≤lszs ls
 |[]=>Nat.le_refl _
 |l::ls=>by
  have ih:=stepL_sz n ls
  have h:=filtL_sz n l
  rw [show stepL n (l::ls)=filtL n l++stepL n ls from rfl,lszs_app,lszs]
  omega
theorem insideL_step (n:Str) (ns:List Str) (ls:List (List Br)):insideL (n::ns) ls=insideL ns (stepL n ls):=rfl
theorem idx_kl {ls:List (List Br)} {i:Int} {j:Nat} {l:List Br} (h:ls[j]?=some l) (hi:i=j):0≤i∧(ls.map klR)[i.toNat]?=some [.sl 0 4 (l.map Br.row)]:=by
 subst hi
 exact ⟨by omega,by rw [Int.toNat_natCast,List.getElem?_map,h];rfl⟩
theorem kidsOf_sem (tree:List Br) (ns:List Str) (hl:ns.length≤2000) (hs:Br.sizes tree≤100000):Sem Tryz.prog 36 [.sl 0 4 (tree.map Br.row),.sl 0 1 (ns.map fun s => [.str s])] (.sl 0 1 ((inside1 ns tree).map klR)):=by
 rw [← insideL_one]
 have hnl:(ns.map fun s => [D.str s]).length=ns.length:=List.length_map _
 generalize hR:insideL ns [tree]=R
 refine si [1000016,1000021,1000047] Tryz.func36 ?_
 repeat'((conv=>whnf);first|(try(first|apply eN|apply eI|apply eC);conv=>whnf);apply sD;(focus first|exact side)|apply rR|apply rE|apply rH| (apply cD<;>intro hb<;>(try simp only[SPLT]at hb)<;>try exact noB))
 all_goals try exact false
 refine ht_down [5] ?_
 conv=>whnf
 refine loop_go (M:=fun t=>mem t [1000016,1000021,1000047]) hT hM (fun x:Nat × List (List Br) => [(17,.int .i64 x.1),(5,.sl 1 1 (x.2.map klR))]) (fun x=>x.1≤ns.length∧lszs x.2≤100001∧insideL (ns.drop x.1) x.2=R) (fun x=>ns.length - x.1) ((0,[tree])) ?_ ?_ ?_
 ·exact finF
 ·exact ⟨Nat.zero_le _,by simp [lszs];omega,hR⟩
 ·rintro ⟨i,ls⟩ ⟨hi,hsz,hv⟩
  dsimp only at hi hsz hv ⊢
  have hlsl:(ls.map klR).length=ls.length:=List.length_map _
  have hlsz:=lszs_len ls
  cases hx:ns[i]? with
  |none=>
   have hm:=List.getElem?_eq_none_iff.1 hx
   rw [List.drop_of_length_le hm] at hv
   have hv:ls=R:=hv
   subst hv
   repeat'((conv=>whnf);first|(try(first|apply eN|apply eI|apply eC);conv=>whnf);apply sD;(focus first|exact side)|apply rR|apply rE|apply rH| (apply cD<;>intro hb<;>(try simp only[SPLT]at hb)<;>try exact noB))
   all_goals try exact false
   exact finR
  |some n=>
   have hlt:=(gLt hx)
   rw [List.drop_eq_getElem_cons hlt,(List.getElem?_eq_some_iff.1 hx).2,insideL_step] at hv
   have hst:=stepL_sz n ls
   generalize hR2:stepL n ls=R2 at hv hst
   have hR2l:=lszs_len R2
   repeat'((conv=>whnf);first|(try(first|apply eN|apply eI|apply eC);conv=>whnf);apply sD;(focus first|(exact idx_eq (f:=fun s => [D.str s]) hx rfl)|exact side)|apply rR|apply rE|apply rH| (apply cD<;>intro hb<;>(try simp only[SPLT]at hb)<;>try exact noB))
   all_goals try exact false
   refine ht_down [5] ?_
   conv=>whnf
   refine loop_go (M:=fun t=>mem t [1000016,1000021,1000047]) hT hM (fun x:Nat × List (List Br) => [(23,.int .i64 x.1),(8,.sl 1 1 (x.2.map klR))]) (fun x=>x.1≤ls.length∧x.2++stepL n (ls.drop x.1)=R2) (fun x=>ls.length - x.1) ((0,[])) ?_ ?_ ?_
   ·(conv=>whnf)
    refine ⟨?_,by rfl⟩
    repeat' ((conv=>whnf);first|exact endF|(exact dle_nil rfl)|exact endF2|with_reducible apply dC)
   ·exact ⟨Nat.zero_le _,by simpa using hR2⟩
   ·rintro ⟨k,acc⟩ ⟨hk,hacc⟩
    dsimp only at hk hacc ⊢
    cases hy:ls[k]? with
    |none=>
     have hm:=List.getElem?_eq_none_iff.1 hy
     rw [List.drop_of_length_le hm] at hacc
     have hacc:acc=R2:=by simpa [stepL] using hacc
     subst hacc
     repeat'((conv=>whnf);first|(try(first|apply eN|apply eI|apply eC);conv=>whnf);apply sD;(focus first|exact side)|apply rR|apply rE|apply rH| (apply cD<;>intro hb<;>(try simp only[SPLT]at hb)<;>try exact noB))
     all_goals try exact false
     refine ⟨(i+1,acc),⟨by dsimp only;omega,by dsimp only;omega,hv⟩,by dsimp only;omega,?_⟩
     exact finF
    |some l=>
     have hlk:=(gLt hy)
     rw [stepL_at hy] at hacc
     have hll:(l.map Br.row).length=l.length:=List.length_map _
     have hlsz2:=blen_sizes l
     have hlm:=lszs_mem (gMem hy)
     repeat'((conv=>whnf);first|(try(first|apply eN|apply eI|apply eC);conv=>whnf);apply sD;(focus first|(exact idx_kl hy rfl)|exact side)|apply rR|apply rE|apply rH| (apply cD<;>intro hb<;>(try simp only[SPLT]at hb)<;>try exact noB))
     all_goals try exact false
     refine ht_down [5] ?_
     conv=>whnf
     refine loop_go (M:=fun t=>mem t [1000016,1000021,1000047]) hT hM (fun x:Nat × List (List Br) => [(29,.int .i64 x.1),(8,.sl 1 1 (x.2.map klR))]) (fun x=>x.1≤l.length∧x.2++(filtL n (l.drop x.1)++stepL n (ls.drop (k+1)))=R2) (fun x=>l.length - x.1) ((0,acc)) ?_ ?_ ?_
     ·exact finF
     ·exact ⟨Nat.zero_le _,by simpa using hacc⟩
     ·rintro ⟨m,ac⟩ ⟨hmm,hac⟩
      dsimp only at hmm hac ⊢
      have hacl:ac.length≤1000000:=by
       have:=congrArg List.length hac
       rw [List.length_append] at this
       omega
      cases hz:l[m]? with
      |none=>
       have hm2:=List.getElem?_eq_none_iff.1 hz
       rw [List.drop_of_length_le hm2] at hac
       repeat'((conv=>whnf);first|(try(first|apply eN|apply eI|apply eC);conv=>whnf);apply sD;(focus first|exact side)|apply rR|apply rE|apply rH| (apply cD<;>intro hb<;>(try simp only[SPLT]at hb)<;>try exact noB))
       all_goals try exact false
       refine ⟨(k+1,ac),⟨by dsimp only;omega,by simpa [filtL] using hac⟩,by dsimp only;omega,?_⟩
       exact finF
      |some b=>
       have hlm2:=(gLt hz)
       obtain ⟨n1,t1,els1,ks1⟩:=b
       repeat'((conv=>whnf);first|(try(first|apply eN|apply eI|apply eC);conv=>whnf);apply sD;(focus first|(exact idx_br hz rfl)|exact side)|apply rR|apply rE|apply rH| (apply cD<;>intro hb<;>(try simp only[SPLT]at hb)<;>try exact noB))
       all_goals try exact false
       ·rw [filtL_yes hz hb] at hac
        refine ⟨(m+1,ac ++ [ks1]),⟨by dsimp only;omega,by rw [List.append_assoc];exact hac⟩,by dsimp only;omega,?_⟩
        (conv=>whnf)
        refine ⟨?_,by rfl⟩
        repeat' ((conv=>whnf);first|exact endF|(exact DLe.of_eq (congrArg (D.sl 1 1) (by rw [List.map_append];rfl)))|exact endF2|with_reducible apply dC)
       ·rw [filtL_no hz hb] at hac
        refine ⟨(m+1,ac),⟨by dsimp only;omega,hac⟩,by dsimp only;omega,?_⟩
        exact finF
theorem own_fm {k:Int} {ks:List Cond} {p:Str} {vs:List Str} {lo hi:Int} (h:ownErr k ks.length p vs lo hi=0):(k=3∨k=7∨k=8→∃ x,ks = [x])∧(k=1∨k=2→ks ≠ [])∧1≤k∧k≤9:=by
 unfold ownErr at h
 split at h
 ·cases h
 ·rename_i hr
  split at h
  ·cases h
  ·rename_i hf
   have hf:formB k ks.length p vs.length lo hi=false:=by simpa using hf
   unfold formB at hf
   simp only [Bool.or_eq_false_iff] at hf
   have h5:=hf.2
   refine ⟨fun hk => ?_,fun hk e => ?_,by omega,by omega⟩
   ·have:ks.length=1:=by
     rcases hk with rfl|rfl|rfl<;>simp [usesOfB,overB] at h5<;>omega
    match ks,this with
    |[x],_=>exact ⟨x,rfl⟩
   ·subst e
    rcases hk with rfl|rfl<;>simp [usesOfB] at h5
end Go.Proofs.YtdhlopciapncfaaGreatDoor
