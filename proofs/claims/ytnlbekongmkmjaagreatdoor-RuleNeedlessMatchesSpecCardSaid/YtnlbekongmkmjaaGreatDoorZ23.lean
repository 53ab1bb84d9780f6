/- Conditions: their sizes, their atoms, and short ones (plain). Conditions: their atoms, and short ones (plain). Formulas: conditions whose atoms are numbers (plain). The atoms of a condition: the program's and the reference's (walks). Formulas: the program's (walks). Formulas of conditions, and their tables: the program's (walks). Tables of formulas: the program's (walks). Formulas of conditions together (program), and what the reference evaluates (walks). -/
import Derived.Test.YtnlbekongmkmjaaGreatDoorZ16
import Derived.Test.YtnlbekongmkmjaaGreatDoorZ20
import Derived.Test.YtnlbekongmkmjaaGreatDoorZ22
namespace Go.Proofs.YtnlbekongmkmjaaGreatDoor
set_option linter.unusedSimpArgs false
set_option linter.unusedVariables false
open Go.RowKit
def Cond.kind:Cond→Int
 | .mk k _ _ _ _ _=>k
def Cond.kids:Cond→List Cond
 | .mk _ ks _ _ _ _=>ks
mutual
/-- How many parts a condition has. -/
def Cond.size:Cond→Nat
 | .mk _ ks _ _ _ _=>Cond.sizes ks+1
def Cond.sizes:List Cond→Nat
 | []=>0
 | c::l=>c.size+Cond.sizes l
end
theorem size_mk (k:Int) (ks:List Cond) (p:Str) (vs:List Str) (lo hi:Int):(Cond.mk k ks p vs lo hi).size=Cond.sizes ks+1:=by rw [Cond.size]
theorem sizes_cons (c:Cond) (l:List Cond):Cond.sizes (c::l)=c.size+Cond.sizes l:=by rw [Cond.sizes]
theorem size_pos (c:Cond):1≤c.size:=by obtain ⟨k,ks,p,vs,lo,hi⟩:=c;rw [size_mk];omega
theorem len_sizes:∀ l:List Cond,l.length≤Cond.sizes l
 | []=>Nat.zero_le _
 | c::l=>by rw [sizes_cons,List.length_cons];have:=len_sizes l;have:=size_pos c;omega
attribute [irreducible] Cond.size Cond.sizes
/-- What every part of a condition is like. -/
inductive Cond.Nice (n:Nat):Cond→Prop where
 | mk {k:Int} {ks:List Cond} {p:Str} {vs:List Str} {lo hi:Int} (h1:ks.length≤n) (h2:vs.length≤1000) (hp:p.length≤9223372036854775807) (hv:∀ v ∈ vs,v.length≤9223372036854775807)
   (hk:k=1∨k=2∨k=3→ks ≠ []) (h4:∀ x ∈ ks,x.Nice n):(Cond.mk k ks p vs lo hi).Nice n
theorem nice_small {n:Nat} (hn:n≤1000) (c:Cond):c.Nice n→c.Small:=by
 induction c using Cond.ind with
 | h k ks p vs lo hi ih=>
  rintro ⟨h1,h2,hp,hv,hk,h4⟩
  exact .mk (by omega) h2 fun x hx=>ih x hx (h4 x hx)
/-- What is right has few parts, and each part has what it needs. -/
theorem own_ok {k:Int} {nk:Nat} {p:Str} {vs:List Str} {lo hi:Int} (h:ownErr k nk p vs lo hi=0):vs.length≤1000∧(k=1∨k=2∨k=3→nk ≠ 0):=by
 unfold ownErr at h
 split at h
 ·cases h
 ·split at h
  ·cases h
  ·rename_i hf
   have hf:formB k nk p vs.length lo hi=false:=by simpa using hf
   unfold formB usesOfB overB at hf
   simp only [Bool.or_eq_false_iff] at hf
   obtain ⟨⟨⟨⟨_,_⟩,h3⟩,_⟩,h5⟩:=hf
   refine ⟨?_,fun hk hn => ?_⟩
   ·by_cases h5:k=5
    ·subst h5
     rw [if_neg (by decide)] at h
     split at h
     ·rename_i hh
      omega
     ·rw [if_pos rfl] at h
      unfold valuesErr at h
      split at h
      ·cases h
      ·split at h
       ·cases h
       ·omega
    ·have:decide (0 < vs.length)=false:=by
      rw [Bool.and_eq_false_iff] at h3
      rcases h3 with h3|h3
      ·simp at h3;exact absurd h3 h5
      ·exact h3
     simp at this
     simp [this]
   ·subst hn
    rcases hk with rfl|rfl|rfl<;>simp at h5
theorem chks_ok {d:Int}:∀ (l:List Cond),(∀ c ∈ l,∀ n,0≤n→n≤200→c.Txt→(c.chk d n).2=0→(c.chk d n).1=n+c.size∧c.Nice 200)→∀ n,0≤n→n≤200→(∀ c ∈ l,c.Txt)→(Cond.chks l d n).2=0→(Cond.chks l d n).1=n+Cond.sizes l∧∀ c ∈ l,c.Nice 200
 | [],_,n,_,_,_,_=>by rw [chks_nil];unfold Cond.sizes;exact ⟨by simp,by simp⟩
 | c::l,hc,n,hn0,hn,ht,h=>by
  have hat:=chks_at (l:=c::l) (i:=0) (c:=c) rfl d n
  rw [List.drop_zero] at hat
  rw [hat] at h ⊢
  by_cases he:(c.chk d n).2=0
  ·rw [if_neg (by simp [he])] at h ⊢
   obtain ⟨h1,h2⟩:=hc c (by simp) n hn0 hn (ht c (by simp)) he
   have hb:=(chk_bd c d n hn).2 he
   rw [show List.drop (0+1) (c::l)=l from rfl] at h ⊢
   obtain ⟨h3,h4⟩:=chks_ok l (fun x hx=>hc x (by simp [hx])) _ (by rw [h1];omega) hb (fun x hx=>ht x (by simp [hx])) h
   refine ⟨by rw [h3,h1,sizes_cons];omega,fun x hx => ?_⟩
   rcases List.mem_cons.1 hx with rfl|hx
   ·exact h2
   ·exact h4 x hx
  ·rw [if_pos he] at h
   exact absurd h he
theorem chk_ok (c:Cond):∀ d n:Int,n≤200→0≤n→c.Txt→(c.chk d n).2=0→(c.chk d n).1=n+c.size∧c.Nice 200:=by
 induction c using Cond.ind with
 | h k ks p vs lo hi ih=>
  intro d n hn hn0 ht h
  obtain ⟨hp,hv,hks⟩:=ht
  have hb:=chk_bd (.mk k ks p vs lo hi) d n hn
  rw [chk_mk] at h hb ⊢
  split at h
  ·cases h
  ·rename_i h1
   rw [if_neg h1] at hb ⊢
   split at h
   ·rename_i he
    exact absurd h he
   ·rename_i he
    rw [if_neg he] at hb ⊢
    obtain ⟨h2,h3⟩:=chks_ok (d:=d+1) ks (fun c hc m h0 hm ht hh=>ih c hc (d+1) m hm h0 ht hh) (n+1) (by omega) (by omega) hks h
    obtain ⟨o1,o2⟩:=own_ok (by simpa using he)
    have hl:=len_sizes ks
    have h200:=hb.2 h
    refine ⟨by rw [h2,size_mk];omega,.mk (by omega) o1 hp hv (fun hk e=>o2 hk (by rw [e];rfl)) h3⟩
end Go.Proofs.YtnlbekongmkmjaaGreatDoor
namespace Go.Proofs.YtnlbekongmkmjaaGreatDoor
set_option linter.unusedSimpArgs false
set_option linter.unusedVariables false
open Go.RowKit
def isAtomB (k:Int):Bool := !(k == 1) && !(k == 2) && !(k == 3)
mutual
/-- How many atoms a condition has, each as often as it stands there. -/
def Cond.acnt:Cond→Nat
 | .mk k ks _ _ _ _=>if isAtomB k=true then 1 else Cond.acnts ks
def Cond.acnts:List Cond→Nat
 | []=>0
 | c::l=>c.acnt+Cond.acnts l
end
theorem acnt_mk (k:Int) (ks:List Cond) (p:Str) (vs:List Str) (lo hi:Int):(Cond.mk k ks p vs lo hi).acnt=if isAtomB k=true then 1 else Cond.acnts ks:=by rw [Cond.acnt]
theorem acnts_nil:Cond.acnts []=0:=by rw [Cond.acnts]
theorem acnts_cons (c:Cond) (l:List Cond):Cond.acnts (c::l)=c.acnt+Cond.acnts l:=by rw [Cond.acnts]
attribute [irreducible] Cond.acnt Cond.acnts
mutual
/-- The atoms of a condition behind others, each once. -/
def Cond.ats:Cond→List Cond→List Cond
 | .mk k ks p vs lo hi,out=>if isAtomB k=true then (if hasC out (.mk k ks p vs lo hi)=true then out else out ++ [.mk k ks p vs lo hi]) else Cond.atss ks out
def Cond.atss:List Cond→List Cond→List Cond
 | [],out=>out
 | c::l,out=>Cond.atss l (c.ats out)
end
theorem ats_mk (k:Int) (ks:List Cond) (p:Str) (vs:List Str) (lo hi:Int) (out:List Cond):(Cond.mk k ks p vs lo hi).ats out=if isAtomB k=true then (if hasC out (.mk k ks p vs lo hi)=true then out else out ++ [.mk k ks p vs lo hi]) else Cond.atss ks out:=by rw [Cond.ats]
theorem atss_nil (out:List Cond):Cond.atss [] out=out:=by rw [Cond.atss]
theorem atss_cons (c:Cond) (l out:List Cond):Cond.atss (c::l) out=Cond.atss l (c.ats out):=by rw [Cond.atss]
attribute [irreducible] Cond.ats Cond.atss
theorem atss_at {l:List Cond} {i:Nat} {c:Cond} (h:l[i]?=some c) (out:List Cond):Cond.atss (l.drop i) out=Cond.atss (l.drop (i+1)) (c.ats out):=by
 rw [List.drop_eq_getElem_cons (List.getElem?_eq_some_iff.1 h).1,(List.getElem?_eq_some_iff.1 h).2,atss_cons]
theorem atss_len:∀ (l:List Cond),(∀ c ∈ l,∀ out,out.length≤(c.ats out).length∧(c.ats out).length≤out.length+c.acnt)→∀ out,out.length≤(Cond.atss l out).length∧(Cond.atss l out).length≤out.length+Cond.acnts l
 | [],_,out=>by rw [atss_nil];rw [acnts_nil];omega
 | c::l,h,out=>by
  obtain ⟨h1,h2⟩:=h c (by simp) out
  obtain ⟨h3,h4⟩:=atss_len l (fun x hx=>h x (by simp [hx])) (c.ats out)
  rw [atss_cons,acnts_cons]
  omega
theorem ats_len (c:Cond):∀ out,out.length≤(c.ats out).length∧(c.ats out).length≤out.length+c.acnt:=by
 induction c using Cond.ind with
 | h k ks p vs lo hi ih=>
  intro out
  rw [ats_mk,acnt_mk]
  split
  ·split
   ·omega
   ·simp
  ·have:=atss_len ks ih out
   omega
/-- What stands in a list, and is put there if it isn't yet. -/
def addC (acc:List Cond) (y:Cond):List Cond:=if hasC acc y=true then acc else acc ++ [y]
def innerC (k:Int) (x:Cond):List Cond:=if x.kind=k then x.kids else [x]
def flatC (k:Int):List Cond→List Cond→List Cond
 | [],acc=>acc
 | x::l,acc=>flatC k l ((innerC k x).foldl addC acc)
/-- An All, or Any, whose conditions are short. -/
def severalE (k:Int) (F A:List Cond) (cb:Bool) (p:Str) (vs:List Str) (lo hi:Int):Cond:=
 if F.length=1 then F.headD noneC else if cb=false then .mk k F p vs lo hi else
  if k=1 then notC (anyC [A.headD noneC,notC (A.headD noneC)]) else anyC [A.headD noneC,notC (A.headD noneC)]
def severalC (k:Int) (ks:List Cond) (p:Str) (vs:List Str) (lo hi:Int):Cond:=
 severalE k (flatC k ks []) ((Cond.mk k (flatC k ks []) p vs lo hi).ats []) (contraC (flatC k ks [])) p vs lo hi
def endC (k:Int) (ks:List Cond) (p:Str) (vs:List Str) (lo hi:Int):Cond:=
 if k=3∧(ks.headD noneC).kind=3 then (ks.headD noneC).kids.headD noneC else if k=1∨k=2 then severalC k ks p vs lo hi else .mk k ks p vs lo hi
mutual
def Cond.short:Cond→Cond
 | .mk k ks p vs lo hi=>endC k (Cond.shorts ks) p vs lo hi
def Cond.shorts:List Cond→List Cond
 | [] => []
 | c::l=>c.short::Cond.shorts l
end
attribute [irreducible] Cond.short
theorem kinds {k:Int} (ha:¬ isAtomB k=true):k=1∨k=2∨k=3:=by
 simp only [isAtomB,Bool.not_eq_true,Bool.and_eq_false_iff,Bool.not_eq_false',beq_iff_eq] at ha
 rcases ha with (h|h)|h
 ·exact .inl h
 ·exact .inr (.inl h)
 ·exact .inr (.inr h)
end Go.Proofs.YtnlbekongmkmjaaGreatDoor
namespace Go.Proofs.YtnlbekongmkmjaaGreatDoor
set_option linter.unusedSimpArgs false
set_option linter.unusedVariables false
open Go.RowKit
set_option maxRecDepth 100000
inductive Form where
 | mk (kind atom:Int) (of:List Form)
mutual
/-- Its cells. -/
def Form.row:Form→List D
 | .mk k a fs => [.int .i64 k,.int .i64 a,.sl 0 3 (Form.rows fs)]
def Form.rows:List Form→List (List D)
 | [] => []
 | c::l=>c.row::Form.rows l
end
theorem Form.rows_map (l:List Form):Form.rows l=l.map Form.row:=by
 induction l with
 | nil=>rw [Form.rows,List.map_nil]
 | cons c l ih=>rw [Form.rows,List.map_cons,ih]
theorem Form.row_mk (k a:Int) (fs:List Form):(Form.mk k a fs).row = [.int .i64 k,.int .i64 a,.sl 0 3 (fs.map Form.row)]:=by
 rw [Form.row,Form.rows_map]
attribute [irreducible] Form.row
theorem Form.ind {p:Form→Prop} (h:∀ k a fs,(∀ x ∈ fs,p x)→p (.mk k a fs)) (c:Form):p c:=
 Form.rec (motive_1:=p) (motive_2:=fun l=>∀ x ∈ l,p x) (fun k a fs ih=>h k a fs ih) (fun x hx=>by simp at hx) (fun c l h1 h2 x hx=>by
  rcases List.mem_cons.1 hx with rfl|hx
  ·exact h1
  ·exact h2 x hx) c
theorem idx_form {l:List Form} {i:Int} {j:Nat} {k a:Int} {fs:List Form} (h:l[j]?=some (.mk k a fs)) (hi':i=j):0≤i∧(l.map Form.row)[i.toNat]?=some [.int .i64 k,.int .i64 a,.sl 0 3 (fs.map Form.row)]:=by
 subst hi'
 refine ⟨by omega,?_⟩
 rw [Int.toNat_natCast,List.getElem?_map,h,Option.map_some,Form.row_mk]
/-- A bit of a number. -/
def bitZ (a bits:Int):Bool:=bits / 2 ^ a.toNat % 2 == 1
mutual
/-- Is a formula true, if the atoms with these bits are? -/
def Form.tv (bits:Int):Form→Bool
 | .mk k a fs=>if k=1 then Form.tvA bits fs else if k=2 then Form.tvO bits fs else if k=3 then !Form.tvH bits fs else bitZ a bits
def Form.tvA (bits:Int):List Form→Bool
 | []=>true
 | f::l=>f.tv bits && Form.tvA bits l
def Form.tvO (bits:Int):List Form→Bool
 | []=>false
 | f::l=>f.tv bits || Form.tvO bits l
def Form.tvH (bits:Int):List Form→Bool
 | []=>false
 | f::_=>f.tv bits
end
theorem ftv_mk (bits k a:Int) (fs:List Form):(Form.mk k a fs).tv bits=if k=1 then Form.tvA bits fs else if k=2 then Form.tvO bits fs else if k=3 then !Form.tvH bits fs else bitZ a bits:=by rw [Form.tv]
theorem tvA_all (bits:Int):∀ l:List Form,Form.tvA bits l = !(l.any fun f => !f.tv bits)
 | []=>by rw [Form.tvA];rfl
 | f::l=>by rw [Form.tvA,tvA_all bits l,List.any_cons];cases f.tv bits<;>simp
theorem tvO_any (bits:Int):∀ l:List Form,Form.tvO bits l=l.any fun f=>f.tv bits
 | []=>by rw [Form.tvO];rfl
 | f::l=>by rw [Form.tvO,tvO_any bits l,List.any_cons]
theorem tvH_at {bits:Int} {l:List Form} {f:Form} (h:l[0]?=some f):Form.tvH bits l=f.tv bits:=by
 cases l with
 | nil=>cases h
 | cons a l=>rw [Form.tvH];simp at h;rw [h]
attribute [irreducible] Form.tv Form.tvA Form.tvO Form.tvH
/-- What a formula needs to be evaluated. -/
inductive Form.Ok:Form→Prop where
 | mk {k a:Int} {fs:List Form} (h1:k=3→fs ≠ []) (h2:k ≠ 1→k ≠ 2→k ≠ 3→0≤a∧a≤62) (h3:∀ x ∈ fs,x.Ok):(Form.mk k a fs).Ok
mutual
/-- Is a condition true, if the atoms with these bits are? -/
def Cond.tv (L:List Cond) (bits:Int):Cond→Bool
 | .mk k ks p vs lo hi=>if k=1 then Cond.tvA L bits ks else if k=2 then Cond.tvO L bits ks else if k=3 then !Cond.tvH L bits ks else bitZ (numC L (.mk k ks p vs lo hi)) bits
def Cond.tvA (L:List Cond) (bits:Int):List Cond→Bool
 | []=>true
 | f::l=>f.tv L bits && Cond.tvA L bits l
def Cond.tvO (L:List Cond) (bits:Int):List Cond→Bool
 | []=>false
 | f::l=>f.tv L bits || Cond.tvO L bits l
def Cond.tvH (L:List Cond) (bits:Int):List Cond→Bool
 | []=>false
 | f::_=>f.tv L bits
end
theorem ctv_mk (L:List Cond) (bits k:Int) (ks:List Cond) (p:Str) (vs:List Str) (lo hi:Int):(Cond.mk k ks p vs lo hi).tv L bits=if k=1 then Cond.tvA L bits ks else if k=2 then Cond.tvO L bits ks else if k=3 then !Cond.tvH L bits ks else bitZ (numC L (.mk k ks p vs lo hi)) bits:=by rw [Cond.tv]
theorem ctvA_nil (L:List Cond) (bits:Int):Cond.tvA L bits []=true:=by rw [Cond.tvA]
theorem ctvO_nil (L:List Cond) (bits:Int):Cond.tvO L bits []=false:=by rw [Cond.tvO]
theorem ctvA_cons (L:List Cond) (bits:Int) (c:Cond) (l:List Cond):Cond.tvA L bits (c::l)=(c.tv L bits && Cond.tvA L bits l):=by rw [Cond.tvA]
theorem ctvO_cons (L:List Cond) (bits:Int) (c:Cond) (l:List Cond):Cond.tvO L bits (c::l)=(c.tv L bits || Cond.tvO L bits l):=by rw [Cond.tvO]
theorem ctvA_at {L:List Cond} {bits:Int} {l:List Cond} {i:Nat} {c:Cond} (h:l[i]?=some c):Cond.tvA L bits (l.drop i)=(c.tv L bits && Cond.tvA L bits (l.drop (i+1))):=by
 rw [List.drop_eq_getElem_cons (List.getElem?_eq_some_iff.1 h).1,(List.getElem?_eq_some_iff.1 h).2,ctvA_cons]
theorem ctvO_at {L:List Cond} {bits:Int} {l:List Cond} {i:Nat} {c:Cond} (h:l[i]?=some c):Cond.tvO L bits (l.drop i)=(c.tv L bits || Cond.tvO L bits (l.drop (i+1))):=by
 rw [List.drop_eq_getElem_cons (List.getElem?_eq_some_iff.1 h).1,(List.getElem?_eq_some_iff.1 h).2,ctvO_cons]
theorem ctvH_at {L:List Cond} {bits:Int} {l:List Cond} {f:Cond} (h:l[0]?=some f):Cond.tvH L bits l=f.tv L bits:=by
 cases l with
 | nil=>cases h
 | cons a l=>rw [Cond.tvH];simp at h;rw [h]
theorem ctvA_all (L:List Cond) (bits:Int):∀ l:List Cond,Cond.tvA L bits l=l.all fun f=>f.tv L bits
 | []=>by rw [Cond.tvA];rfl
 | f::l=>by rw [Cond.tvA,ctvA_all L bits l,List.all_cons]
mutual
/-- The formula of a condition. -/
def Cond.form (L:List Cond):Cond→Form
 | .mk k ks p vs lo hi=>if isAtomB k=true then .mk k (numC L (.mk k ks p vs lo hi)) [] else .mk k 0 (Cond.forms L ks)
def Cond.forms (L:List Cond):List Cond→List Form
 | [] => []
 | c::l=>c.form L::Cond.forms L l
end
theorem form_mk (L:List Cond) (k:Int) (ks:List Cond) (p:Str) (vs:List Str) (lo hi:Int):(Cond.mk k ks p vs lo hi).form L=if isAtomB k=true then .mk k (numC L (.mk k ks p vs lo hi)) [] else .mk k 0 (Cond.forms L ks):=by rw [Cond.form]
theorem forms_map (L:List Cond):∀ l:List Cond,Cond.forms L l=l.map (Cond.form L)
 | []=>by rw [Cond.forms];rfl
 | c::l=>by rw [Cond.forms,forms_map L l];rfl
theorem atomK {k:Int}:isAtomB k=true↔k ≠ 1∧k ≠ 2∧k ≠ 3:=by
 unfold isAtomB
 simp
 omega
theorem forms_tv (L:List Cond) (bits:Int):∀ l:List Cond,(∀ c ∈ l,(c.form L).tv bits=c.tv L bits)→Form.tvA bits (Cond.forms L l)=Cond.tvA L bits l∧Form.tvO bits (Cond.forms L l)=Cond.tvO L bits l∧Form.tvH bits (Cond.forms L l)=Cond.tvH L bits l
 | [],_=>by rw [Cond.forms];unfold Form.tvA Form.tvO Form.tvH Cond.tvA Cond.tvO Cond.tvH;exact ⟨rfl,rfl,rfl⟩
 | c::l,h=>by
  obtain ⟨h1,h2,h3⟩:=forms_tv L bits l fun x hx=>h x (by simp [hx])
  have h0:=h c (by simp)
  rw [Cond.forms]
  unfold Form.tvA Form.tvO Form.tvH Cond.tvA Cond.tvO Cond.tvH
  rw [h1,h2,h0]
  exact ⟨rfl,rfl,rfl⟩
/-- A formula says what its condition says. -/
theorem form_tv (L:List Cond) (bits:Int) (c:Cond):(c.form L).tv bits=c.tv L bits:=by
 induction c using Cond.ind with
 | h k ks p vs lo hi ih=>
  obtain ⟨h1,h2,h3⟩:=forms_tv L bits ks ih
  rw [form_mk,ctv_mk]
  split
  ·rename_i ha
   obtain ⟨g1,g2,g3⟩:=atomK.1 ha
   rw [ftv_mk,if_neg g1,if_neg g2,if_neg g3,if_neg g1,if_neg g2,if_neg g3]
  ·rename_i ha
   rw [ftv_mk,h1,h2,h3]
   split
   ·rfl
   ·split
    ·rfl
    ·split
     ·rfl
     ·rename_i g1 g2 g3
      exact absurd (atomK.2 ⟨g1,g2,g3⟩) ha
attribute [irreducible] Cond.tv Cond.tvA Cond.tvO Cond.tvH Cond.form Cond.forms
/-- All atoms of a condition are in a list. -/
inductive Cond.In (L:List Cond):Cond→Prop where
 | mk {k:Int} {ks:List Cond} {p:Str} {vs:List Str} {lo hi:Int} (h1:isAtomB k=true→hasC L (.mk k ks p vs lo hi)=true) (h2:isAtomB k=false→∀ x ∈ ks,x.In L):(Cond.mk k ks p vs lo hi).In L
theorem hasC_app {L M:List Cond} {c:Cond} (h:hasC L c=true):hasC (L++M) c=true:=by
 unfold hasC at h ⊢
 rw [List.any_append,h,Bool.true_or]
theorem In_app {L M:List Cond} (c:Cond):c.In L→c.In (L++M):=by
 induction c using Cond.ind with
 | h k ks p vs lo hi ih=>
  rintro ⟨h1,h2⟩
  exact .mk (fun h=>hasC_app (h1 h)) fun h x hx=>ih x hx (h2 h x hx)
theorem atss_grow:∀ (l:List Cond),(∀ c ∈ l,∀ out,(∃ M,c.ats out=out++M)∧c.In (c.ats out))→∀ out,(∃ M,Cond.atss l out=out++M)∧∀ c ∈ l,c.In (Cond.atss l out)
 | [],_,out=>by rw [atss_nil];exact ⟨⟨[],by simp⟩,by simp⟩
 | c::l,h,out=>by
  obtain ⟨⟨M,hM⟩,hc⟩:=h c (by simp) out
  obtain ⟨⟨M2,hM2⟩,hl⟩:=atss_grow l (fun x hx=>h x (by simp [hx])) (c.ats out)
  rw [atss_cons]
  refine ⟨⟨M++M2,by rw [hM2,hM,List.append_assoc]⟩,fun x hx => ?_⟩
  rcases List.mem_cons.1 hx with rfl|hx
  ·rw [hM2];exact In_app _ hc
  ·exact hl x hx
theorem same_refl (c:Cond):c.same c=true:=(Cond.same_iff c c).2 rfl
theorem hasC_self (L:List Cond) (c:Cond):hasC (L ++ [c]) c=true:=by
 unfold hasC
 rw [List.any_append,List.any_cons,same_refl,Bool.true_or,Bool.or_true]
/-- The atoms stand behind the others, and all are there. -/
theorem ats_grow (c:Cond):∀ out,(∃ M,c.ats out=out++M)∧c.In (c.ats out):=by
 induction c using Cond.ind with
 | h k ks p vs lo hi ih=>
  intro out
  rw [ats_mk]
  split
  ·rename_i ha
   split
   ·rename_i hh
    exact ⟨⟨[],by simp⟩,.mk (fun _=>hh) fun h=>by rw [ha] at h;cases h⟩
   ·exact ⟨⟨_,rfl⟩,.mk (fun _=>hasC_self _ _) fun h=>by rw [ha] at h;cases h⟩
  ·rename_i ha
   obtain ⟨h1,h2⟩:=atss_grow ks ih out
   exact ⟨h1,.mk (fun h=>absurd h ha) fun _=>h2⟩
theorem idxG_lt {α:Type} (q:α→Bool):∀ (l:List α) (k:Int),idxG q l k < k+l.length∨idxG q l k = -1
 | [],k=>.inr rfl
 | a::r,k=>by
  rw [idxG,List.length_cons]
  split
  ·exact .inl (by omega)
  ·rcases idxG_lt q r (k+1) with h|h
   ·exact .inl (by omega)
   ·exact .inr h
theorem num_lt {L:List Cond} {c:Cond} (h:hasC L c=true):0≤numC L c∧numC L c < L.length:=by
 have h1:decide (0≤numC L c)=hasC L c:=idxG_any (fun x:Cond=>x.same c) L 0 (by omega)
 rw [h] at h1
 have h1:=of_decide_eq_true h1
 rcases idxG_lt (fun x:Cond=>x.same c) L 0 with h2|h2
 ·exact ⟨h1,by unfold numC;omega⟩
 ·unfold numC at h1
  omega
theorem form_ok {n:Nat} {L:List Cond} (hL:L.length≤62) (c:Cond):c.Nice n→c.In L→(c.form L).Ok:=by
 induction c using Cond.ind with
 | h k ks p vs lo hi ih=>
  rintro ⟨_,_,_,_,hk,h4⟩ ⟨h1,h2⟩
  rw [form_mk]
  split
  ·rename_i ha
   obtain ⟨g1,g2,g3⟩:=atomK.1 ha
   obtain ⟨i1,i2⟩:=num_lt (h1 ha)
   exact .mk (fun h=>absurd h g3) (fun _ _ _=>⟨i1,by omega⟩) (by simp)
  ·rename_i ha
   have ha':isAtomB k=false:=by simpa using ha
   rw [forms_map]
   refine .mk (fun h=>by simp;exact hk (by omega)) (fun g1 g2 g3=>absurd (atomK.2 ⟨g1,g2,g3⟩) ha) fun x hx => ?_
   obtain ⟨y,hy,rfl⟩:=List.mem_map.1 hx
   exact ih y hy (h4 y hy) (h2 ha' y hy)
/-- All that a number of atoms can be: is b true whenever all of a are? -/
def follB (a:List Cond) (b:Cond) (L:List Cond):Bool:=(List.range (2 ^ L.length)).all fun s => !(a.all fun c=>c.tv L s) || b.tv L s
def tabF (f:Form) (many:Nat):List Bool:=(List.range (2 ^ many)).map fun s:Nat=>f.tv s
theorem two_pow_le {m:Nat} (h:m≤12):2 ^ m≤4096:=Nat.le_trans (Nat.pow_le_pow_right (by omega) h) (by decide)
end Go.Proofs.YtnlbekongmkmjaaGreatDoor
namespace Go.Proofs.YtnlbekongmkmjaaGreatDoor
set_option linter.unusedSimpArgs false
set_option linter.unusedVariables false
open Go.RowKit
set_option maxRecDepth 100000
set_option maxHeartbeats 4000000
theorem isAtom_sem (k:Int) (rows:List (List D)) (p:Str) (vs:List (List D)) (lo hi:Int):Sem Tryz.prog 69 [.agg [.int .i64 k,.sl 0 6 rows,.str p,.sl 0 1 vs,.int .i64 lo,.int .i64 hi]] (.bool (isAtomB k)):=by
 refine sem_intro (M:=fun t=>mem t [1000021,1000034,1000044]) hT hM Tryz.func69 inferInstance rfl rfl rfl rfl rfl rfl ?_
 repeat' (
  (conv=>whnf)
  first
   | ((try ((with_reducible first|apply NumE.go|apply IdxE.go|apply TextE.go|apply LookE.go|apply CallE.go);(conv=>whnf)));(with_reducible apply SideD.mk);(focus ((first|(intro hc;have hc0:=hc;(try simp only [SPLT] at hc);(try refine And.intro (by first|exact hc0|exact ⟨hc0,hc0⟩|exact ⟨hc0,hc0,hc0⟩) ?_))|skip);first|exact sideG)))
   | ((with_reducible first|apply DrawR.go0|apply KerB.mk);(focus kernel_rfl))
   | (with_reducible first|apply ends_ret|apply ends_norm|apply Halt'.mk)
   | ((with_reducible apply CondD.mk)<;>intro hb<;>(try simp only [SPLT] at hb)<;>(try first|exact noB)))
 all_goals (try exact (false:Bool))
 repeat' ((conv=>whnf);first|exact endR|(with_reducible first|apply And.intro|apply endsO_ret|apply endsO_norm|apply DLes.cons))
 all_goals (conv=>whnf)
theorem isAtom4_sem (k:Int) (rows:List (List D)) (p:Str) (vs:List (List D)) (lo hi:Int):Sem Tryz.prog 39 [.agg [.int .i64 k,.sl 0 6 rows,.str p,.sl 0 1 vs,.int .i64 lo,.int .i64 hi]] (.bool (isAtomB k)):=by
 refine sem_intro (M:=fun t=>mem t [1000021,1000034,1000044]) hT hM Tryz.func39 inferInstance rfl rfl rfl rfl rfl rfl ?_
 repeat' (
  (conv=>whnf)
  first
   | ((try ((with_reducible first|apply NumE.go|apply IdxE.go|apply TextE.go|apply LookE.go|apply CallE.go);(conv=>whnf)));(with_reducible apply SideD.mk);(focus ((first|(intro hc;have hc0:=hc;(try simp only [SPLT] at hc);(try refine And.intro (by first|exact hc0|exact ⟨hc0,hc0⟩|exact ⟨hc0,hc0,hc0⟩) ?_))|skip);first|exact sideG)))
   | ((with_reducible first|apply DrawR.go0|apply KerB.mk);(focus kernel_rfl))
   | (with_reducible first|apply ends_ret|apply ends_norm|apply Halt'.mk)
   | ((with_reducible apply CondD.mk)<;>intro hb<;>(try simp only [SPLT] at hb)<;>(try first|exact noB)))
 all_goals (try exact (false:Bool))
 repeat' ((conv=>whnf);first|exact endR|(with_reducible first|apply And.intro|apply endsO_ret|apply endsO_norm|apply DLes.cons))
 all_goals (conv=>whnf)
theorem atoms_sem (c:Cond):∀ out:List Cond,out.length+c.acnt≤100000→Sem Tryz.prog 34 [.sl 1 6 (out.map Cond.row),.agg c.row] (.sl 1 6 ((c.ats out).map Cond.row)):=by
 induction c using Cond.ind with
 | h k ks p vs lo hi ih=>
  intro out hn
  have h1:=isAtom_sem k (ks.map Cond.row) p (vs.map fun s => [.str s]) lo hi
  have h2:=has_sem out (.mk k ks p vs lo hi)
  rw [Cond.row_mk] at h2
  have hll:(ks.map Cond.row).length=ks.length:=List.length_map _
  have hol:(out.map Cond.row).length=out.length:=List.length_map _
  rw [acnt_mk] at hn
  rw [Cond.row_mk]
  refine sem_lenA 1 1 rfl rfl rfl fun hks => ?_
  rw [List.length_map] at hks
  rw [← Cond.row_mk]
  have hr:=ats_mk k ks p vs lo hi out
  generalize (Cond.mk k ks p vs lo hi).ats out=r at hr ⊢
  generalize hasC out (.mk k ks p vs lo hi)=b at h2 hr
  generalize isAtomB k=q at h1 hr hn
  rw [Cond.row_mk]
  refine sem_intro (M:=fun t=>mem t [6,1000021,1000034,1000044]) hT hM Tryz.func34 inferInstance rfl rfl rfl rfl rfl rfl ?_
  repeat' (
   (conv=>whnf)
   first
    | ((try ((with_reducible first|apply NumE.go|apply IdxE.go|apply TextE.go|apply LookE.go|apply CallE.go);(conv=>whnf)));(with_reducible apply SideD.mk);(focus (first|((try apply givesl);(focus (first|((apply gives_go (h1));(focus (exact DLes.au));(focus exact rfl);(all_goals (exact pre)))|((apply gives_go (h2));(focus (exact DLes.au));(focus exact rfl);(all_goals (exact pre)))|((apply gives_go (has_sem _ _));(focus (exact DLes.au));(focus exact rfl);(all_goals (exact pre)))|((first|apply gives_go (isAtom_sem _ _ _ _ _ _)|apply gives_go (atomsNil_sem _ _)|apply gives_go (hasNil_sem _));(focus (exact DLes.au));(focus exact rfl);(all_goals (exact pre)))));(all_goals exact rfl))|exact side)))
    | ((with_reducible apply CallO.go);(conv=>whnf);(with_reducible apply SideD.mk);(focus (first|((apply giveso_go (atomsO_sem _ _ _));(focus (first|exact rfl|(simp;done)));(focus (exact DLes.au));(focus exact rfl);(all_goals (exact pre))))))
    | ((with_reducible first|apply DrawR.go0|apply KerB.mk);(focus kernel_rfl))
    | (with_reducible first|apply ends_ret|apply ends_norm|apply Halt'.mk)
    | ((with_reducible apply CondD.mk)<;>intro hb<;>(try simp only [SPLT] at hb)<;>(try first|exact noB)))
  all_goals (try exact (false:Bool))
  ·rw [if_neg (by simp_all)] at hr
   refine loop_go (M:=fun t=>mem t [6,1000021,1000034,1000044]) hT hM (fun x:Nat × List Cond => [(0,.sl 1 6 (x.2.map Cond.row)),(13,.int .i64 x.1)]) (fun x=>x.1≤ks.length∧x.2.length+Cond.acnts (ks.drop x.1)≤100000∧Cond.atss (ks.drop x.1) x.2=r) (fun x=>ks.length - x.1) ((0,out)) ?_ ?_ ?_
   ·(conv=>whnf)
    refine ⟨?_,by rfl⟩
    repeat' ((conv=>whnf);first|exact endF|exact endF2|with_reducible apply DLes.cons)
   ·exact ⟨Nat.zero_le _,by rw [if_neg (by simp_all)] at hn;simp;omega,hr.symm⟩
   ·rintro ⟨i,acc⟩ ⟨hi,hm,hv⟩
    dsimp only at hi hm hv ⊢
    cases hx:ks[i]? with
    | none=>
     have hm':=List.getElem?_eq_none_iff.1 hx
     rw [List.drop_of_length_le hm',atss_nil] at hv
     subst hv
     repeat' (
      (conv=>whnf)
      first
       | ((try ((with_reducible first|apply NumE.go|apply IdxE.go|apply TextE.go|apply LookE.go|apply CallE.go);(conv=>whnf)));(with_reducible apply SideD.mk);(focus (first|((try apply givesl);(focus (first|((apply gives_go (has_sem _ _));(focus (exact DLes.au));(focus exact rfl);(all_goals (exact pre)))|((first|apply gives_go (isAtom_sem _ _ _ _ _ _)|apply gives_go (atomsNil_sem _ _)|apply gives_go (hasNil_sem _));(focus (exact DLes.au));(focus exact rfl);(all_goals (exact pre)))));(all_goals exact rfl))|exact side)))
       | ((with_reducible apply CallO.go);(conv=>whnf);(with_reducible apply SideD.mk);(focus (first|((apply giveso_go (atomsO_sem _ _ _));(focus (first|exact rfl|(simp;done)));(focus (exact DLes.au));(focus exact rfl);(all_goals (exact pre))))))
       | ((with_reducible first|apply DrawR.go0|apply KerB.mk);(focus kernel_rfl))
       | (with_reducible first|apply ends_ret|apply ends_norm|apply Halt'.mk)
       | ((with_reducible apply CondD.mk)<;>intro hb<;>(try simp only [SPLT] at hb)<;>(try first|exact noB)))
     all_goals (try exact (false:Bool))
     repeat' ((conv=>whnf);first|exact endR|(with_reducible first|apply And.intro|apply endsO_ret|apply endsO_norm|apply DLes.cons))
     all_goals (conv=>whnf)
    | some x=>
     have hlt:=(List.getElem?_eq_some_iff.1 hx).1
     rw [atss_at hx] at hv
     rw [List.drop_eq_getElem_cons hlt,(List.getElem?_eq_some_iff.1 hx).2,acnts_cons] at hm
     have ih':=SemO.of (ih x (List.mem_of_getElem? hx) acc (by omega))
     have hl2:=ats_len x acc
     generalize x.ats acc=acc2 at ih' hv hl2
     obtain ⟨k1,ks1,p1,vs1,lo1,hi1⟩:=x
     rw [Cond.row_mk] at ih'
     repeat' (
      (conv=>whnf)
      first
       | ((try ((with_reducible first|apply NumE.go|apply IdxE.go|apply TextE.go|apply LookE.go|apply CallE.go);(conv=>whnf)));(with_reducible apply SideD.mk);(focus (first|(exact idx_row hx rfl)|((try apply givesl);(focus (first|((apply gives_go (has_sem _ _));(focus (exact DLes.au));(focus exact rfl);(all_goals (exact pre)))|((first|apply gives_go (isAtom_sem _ _ _ _ _ _)|apply gives_go (atomsNil_sem _ _)|apply gives_go (hasNil_sem _));(focus (exact DLes.au));(focus exact rfl);(all_goals (exact pre)))));(all_goals exact rfl))|exact side)))
       | ((with_reducible apply CallO.go);(conv=>whnf);(with_reducible apply SideD.mk);(focus (first|((apply giveso_go (ih'));(focus (first|exact rfl|(simp;done)));(focus (exact DLes.au));(focus exact rfl);(all_goals (exact pre))))))
       | ((with_reducible first|apply DrawR.go0|apply KerB.mk);(focus kernel_rfl))
       | (with_reducible first|apply ends_ret|apply ends_norm|apply Halt'.mk)
       | ((with_reducible apply CondD.mk)<;>intro hb<;>(try simp only [SPLT] at hb)<;>(try first|exact noB)))
     all_goals (try exact (false:Bool))
     refine ⟨(i+1,acc2),⟨by dsimp only;omega,by dsimp only;omega,hv⟩,by dsimp only;omega,?_⟩
     (conv=>whnf)
     refine ⟨?_,by rfl⟩
     repeat' ((conv=>whnf);first|exact endF|exact endF2|with_reducible apply DLes.cons)
  ·rw [if_pos (by simp_all),if_pos (by simp_all)] at hr
   subst hr
   repeat' ((conv=>whnf);first|exact endR|(with_reducible first|apply And.intro|apply endsO_ret|apply endsO_norm|apply DLes.cons))
   all_goals (conv=>whnf)
  ·rw [if_pos (by simp_all),if_neg (by simp_all)] at hr
   subst hr
   repeat' ((conv=>whnf);first|exact endR|(with_reducible first|apply And.intro|apply endsO_ret|apply endsO_norm|apply DLes.cons))
   all_goals (conv=>whnf)
   refine rle_sl ?_
   rw [List.map_append,List.map_cons,List.map_nil,Cond.row_mk]
theorem atomsNil_sem (c:Cond) (hn:c.acnt≤100000):Sem Tryz.prog 34 [.nil,.agg c.row] (.sl 0 6 ((c.ats []).map Cond.row)):=by
 obtain ⟨k,ks,p,vs,lo,hi⟩:=c
 have h1:=isAtom_sem k (ks.map Cond.row) p (vs.map fun s => [.str s]) lo hi
 have h2:=hasNil_sem (.mk k ks p vs lo hi)
 rw [Cond.row_mk] at h2
 have hll:(ks.map Cond.row).length=ks.length:=List.length_map _
 rw [acnt_mk] at hn
 rw [Cond.row_mk]
 refine sem_lenA 1 1 rfl rfl rfl fun hks => ?_
 rw [List.length_map] at hks
 rw [← Cond.row_mk]
 have hr:=ats_mk k ks p vs lo hi []
 rw [show hasC [] (.mk k ks p vs lo hi)=false from rfl] at hr
 generalize (Cond.mk k ks p vs lo hi).ats []=r at hr ⊢
 generalize isAtomB k=q at h1 hr hn
 rw [Cond.row_mk]
 refine sem_intro (M:=fun t=>mem t [6,1000021,1000034,1000044]) hT hM Tryz.func34 inferInstance rfl rfl rfl rfl rfl rfl ?_
 repeat' (
  (conv=>whnf)
  first
   | ((try ((with_reducible first|apply NumE.go|apply IdxE.go|apply TextE.go|apply LookE.go|apply CallE.go);(conv=>whnf)));(with_reducible apply SideD.mk);(focus (first|((try apply givesl);(focus (first|((apply gives_go (h1));(focus (exact DLes.au));(focus exact rfl);(all_goals (exact pre)))|((apply gives_go (h2));(focus (exact DLes.au));(focus exact rfl);(all_goals (exact pre)))|((apply gives_go (has_sem _ _));(focus (exact DLes.au));(focus exact rfl);(all_goals (exact pre)))|((first|apply gives_go (isAtom_sem _ _ _ _ _ _)|apply gives_go (atomsNil_sem _ _)|apply gives_go (hasNil_sem _));(focus (exact DLes.au));(focus exact rfl);(all_goals (exact pre)))));(all_goals exact rfl))|exact side)))
   | ((with_reducible apply CallO.go);(conv=>whnf);(with_reducible apply SideD.mk);(focus (first|((apply giveso_go (atomsO_sem _ _ _));(focus (first|exact rfl|(simp;done)));(focus (exact DLes.au));(focus exact rfl);(all_goals (exact pre))))))
   | ((with_reducible first|apply DrawR.go0|apply KerB.mk);(focus kernel_rfl))
   | (with_reducible first|apply ends_ret|apply ends_norm|apply Halt'.mk)
   | ((with_reducible apply CondD.mk)<;>intro hb<;>(try simp only [SPLT] at hb)<;>(try first|exact noB)))
 all_goals (try exact (false:Bool))
 ·rw [if_neg (by simp_all)] at hr
  refine loop_go (M:=fun t=>mem t [6,1000021,1000034,1000044]) hT hM (fun x:Nat × List Cond => [(0,.sl 1 6 (x.2.map Cond.row)),(13,.int .i64 x.1)]) (fun x=>x.1≤ks.length∧x.2.length+Cond.acnts (ks.drop x.1)≤100000∧Cond.atss (ks.drop x.1) x.2=r) (fun x=>ks.length - x.1) ((0,[])) ?_ ?_ ?_
  ·(conv=>whnf)
   refine ⟨?_,by rfl⟩
   repeat' ((conv=>whnf);first|exact endF|exact endF2|with_reducible apply DLes.cons)
  ·exact ⟨Nat.zero_le _,by rw [if_neg (by simp_all)] at hn;simp;omega,hr.symm⟩
  ·rintro ⟨i,acc⟩ ⟨hi,hm,hv⟩
   dsimp only at hi hm hv ⊢
   cases hx:ks[i]? with
   | none=>
    have hm':=List.getElem?_eq_none_iff.1 hx
    rw [List.drop_of_length_le hm',atss_nil] at hv
    subst hv
    repeat' (
     (conv=>whnf)
     first
      | ((try ((with_reducible first|apply NumE.go|apply IdxE.go|apply TextE.go|apply LookE.go|apply CallE.go);(conv=>whnf)));(with_reducible apply SideD.mk);(focus (first|((try apply givesl);(focus (first|((apply gives_go (has_sem _ _));(focus (exact DLes.au));(focus exact rfl);(all_goals (exact pre)))|((first|apply gives_go (isAtom_sem _ _ _ _ _ _)|apply gives_go (atomsNil_sem _ _)|apply gives_go (hasNil_sem _));(focus (exact DLes.au));(focus exact rfl);(all_goals (exact pre)))));(all_goals exact rfl))|exact side)))
      | ((with_reducible apply CallO.go);(conv=>whnf);(with_reducible apply SideD.mk);(focus (first|((apply giveso_go (atomsO_sem _ _ _));(focus (first|exact rfl|(simp;done)));(focus (exact DLes.au));(focus exact rfl);(all_goals (exact pre))))))
      | ((with_reducible first|apply DrawR.go0|apply KerB.mk);(focus kernel_rfl))
      | (with_reducible first|apply ends_ret|apply ends_norm|apply Halt'.mk)
      | ((with_reducible apply CondD.mk)<;>intro hb<;>(try simp only [SPLT] at hb)<;>(try first|exact noB)))
    all_goals (try exact (false:Bool))
    repeat' ((conv=>whnf);first|exact endR|(with_reducible first|apply And.intro|apply endsO_ret|apply endsO_norm|apply DLes.cons))
    all_goals (conv=>whnf)
   | some x=>
    have hlt:=(List.getElem?_eq_some_iff.1 hx).1
    rw [atss_at hx] at hv
    rw [List.drop_eq_getElem_cons hlt,(List.getElem?_eq_some_iff.1 hx).2,acnts_cons] at hm
    have ih':=SemO.of (atoms_sem x acc (by omega))
    have hl2:=ats_len x acc
    generalize x.ats acc=acc2 at ih' hv hl2
    obtain ⟨k1,ks1,p1,vs1,lo1,hi1⟩:=x
    rw [Cond.row_mk] at ih'
    repeat' (
     (conv=>whnf)
     first
      | ((try ((with_reducible first|apply NumE.go|apply IdxE.go|apply TextE.go|apply LookE.go|apply CallE.go);(conv=>whnf)));(with_reducible apply SideD.mk);(focus (first|(exact idx_row hx rfl)|((try apply givesl);(focus (first|((apply gives_go (has_sem _ _));(focus (exact DLes.au));(focus exact rfl);(all_goals (exact pre)))|((first|apply gives_go (isAtom_sem _ _ _ _ _ _)|apply gives_go (atomsNil_sem _ _)|apply gives_go (hasNil_sem _));(focus (exact DLes.au));(focus exact rfl);(all_goals (exact pre)))));(all_goals exact rfl))|exact side)))
      | ((with_reducible apply CallO.go);(conv=>whnf);(with_reducible apply SideD.mk);(focus (first|((apply giveso_go (ih'));(focus (first|exact rfl|(simp;done)));(focus (exact DLes.au));(focus exact rfl);(all_goals (exact pre))))))
      | ((with_reducible first|apply DrawR.go0|apply KerB.mk);(focus kernel_rfl))
      | (with_reducible first|apply ends_ret|apply ends_norm|apply Halt'.mk)
      | ((with_reducible apply CondD.mk)<;>intro hb<;>(try simp only [SPLT] at hb)<;>(try first|exact noB)))
    all_goals (try exact (false:Bool))
    refine ⟨(i+1,acc2),⟨by dsimp only;omega,by dsimp only;omega,hv⟩,by dsimp only;omega,?_⟩
    (conv=>whnf)
    refine ⟨?_,by rfl⟩
    repeat' ((conv=>whnf);first|exact endF|exact endF2|with_reducible apply DLes.cons)
 ·rw [if_pos (by simp_all),if_neg (by simp)] at hr
  subst hr
  repeat' ((conv=>whnf);first|exact endR|(with_reducible first|apply And.intro|apply endsO_ret|apply endsO_norm|apply DLes.cons))
  all_goals (conv=>whnf)
  rw [List.nil_append,List.map_cons,List.map_nil,Cond.row_mk]
  exact rle_sl0 rfl
theorem atoms4_sem (c:Cond):∀ out:List Cond,out.length+c.acnt≤100000→Sem Tryz.prog 21 [.sl 1 6 (out.map Cond.row),.agg c.row] (.sl 1 6 ((c.ats out).map Cond.row)):=by
 induction c using Cond.ind with
 | h k ks p vs lo hi ih=>
  intro out hn
  have h1:=isAtom4_sem k (ks.map Cond.row) p (vs.map fun s => [.str s]) lo hi
  have h2:=number_sem out (.mk k ks p vs lo hi)
  rw [Cond.row_mk] at h2
  have hll:(ks.map Cond.row).length=ks.length:=List.length_map _
  have hol:((out:List Cond).map Cond.row).length=(out:List Cond).length:=List.length_map _
  rw [acnt_mk] at hn
  rw [Cond.row_mk]
  refine sem_lenA 1 1 rfl rfl rfl fun hks => ?_
  rw [List.length_map] at hks
  rw [← Cond.row_mk]
  have hr:=ats_mk k ks p vs lo hi out
  have hq:=idxG_any (fun x:Cond=>x.same (.mk k ks p vs lo hi)) out 0 (by omega)
  change decide (0≤numC out (.mk k ks p vs lo hi))=hasC out (.mk k ks p vs lo hi) at hq
  generalize (Cond.mk k ks p vs lo hi).ats out=r at hr ⊢
  generalize hasC out (.mk k ks p vs lo hi)=b at hq hr
  generalize numC out (.mk k ks p vs lo hi)=m at h2 hq
  generalize isAtomB k=q at h1 hr hn
  rw [Cond.row_mk]
  refine sem_intro (M:=fun t=>mem t [1000021,1000034,1000044]) hT hM Tryz.func21 inferInstance rfl rfl rfl rfl rfl rfl ?_
  repeat' (
   (conv=>whnf)
   first
    | ((try ((with_reducible first|apply NumE.go|apply IdxE.go|apply TextE.go|apply LookE.go|apply CallE.go);(conv=>whnf)));(with_reducible apply SideD.mk);(focus (first|((try apply givesl);(focus (first|((apply gives_go (h1));(focus (exact DLes.au));(focus exact rfl);(all_goals (exact pre)))|((apply gives_go (h2));(focus (exact DLes.au));(focus exact rfl);(all_goals (exact pre)))|((first|apply gives_go (isAtom4_sem _ _ _ _ _ _)|apply gives_go (number_sem _ _)|apply gives_go (atoms4Nil_sem _ _));(focus (exact DLes.au));(focus exact rfl);(all_goals (exact pre)))));(all_goals exact rfl))|exact side)))
    | ((with_reducible apply CallO.go);(conv=>whnf);(with_reducible apply SideD.mk);(focus (first|((apply giveso_go (atoms4O_sem _ _ _));(focus (first|exact rfl|(simp;done)));(focus (exact DLes.au));(focus exact rfl);(all_goals (exact pre))))))
    | ((with_reducible first|apply DrawR.go0|apply KerB.mk);(focus kernel_rfl))
    | (with_reducible first|apply ends_ret|apply ends_norm|apply Halt'.mk)
    | ((with_reducible apply CondD.mk)<;>intro hb<;>(try simp only [SPLT] at hb)<;>(try first|exact noB)))
  all_goals (try exact (false:Bool))
  ·rw [if_pos (by simp_all),if_neg (by rw [← hq];simp;omega)] at hr
   subst hr
   repeat' ((conv=>whnf);first|exact endR|(with_reducible first|apply And.intro|apply endsO_ret|apply endsO_norm|apply DLes.cons))
   all_goals (conv=>whnf)
   refine rle_sl ?_
   rw [List.map_append,List.map_cons,List.map_nil,Cond.row_mk]
  ·rw [if_pos (by simp_all),if_pos (by rw [← hq];simp;omega)] at hr
   subst hr
   repeat' ((conv=>whnf);first|exact endR|(with_reducible first|apply And.intro|apply endsO_ret|apply endsO_norm|apply DLes.cons))
   all_goals (conv=>whnf)
  ·rw [if_neg (by simp_all)] at hr
   refine loop_go (M:=fun t=>mem t [1000021,1000034,1000044]) hT hM (fun x:Nat × List Cond => [(0,.sl 1 6 (x.2.map Cond.row)),(5,.int .i64 x.1)]) (fun x=>x.1≤ks.length∧x.2.length+Cond.acnts (ks.drop x.1)≤100000∧Cond.atss (ks.drop x.1) x.2=r) (fun x=>ks.length - x.1) ((0,out)) ?_ ?_ ?_
   ·(conv=>whnf)
    refine ⟨?_,by rfl⟩
    repeat' ((conv=>whnf);first|exact endF|exact endF2|with_reducible apply DLes.cons)
   ·exact ⟨Nat.zero_le _,by rw [if_neg (by simp_all)] at hn;simp;omega,hr.symm⟩
   ·rintro ⟨i,acc⟩ ⟨hi,hm,hv⟩
    dsimp only at hi hm hv ⊢
    cases hx:ks[i]? with
    | none=>
     have hm':=List.getElem?_eq_none_iff.1 hx
     rw [List.drop_of_length_le hm',atss_nil] at hv
     subst hv
     repeat' (
      (conv=>whnf)
      first
       | ((try ((with_reducible first|apply NumE.go|apply IdxE.go|apply TextE.go|apply LookE.go|apply CallE.go);(conv=>whnf)));(with_reducible apply SideD.mk);(focus (first|((try apply givesl);(focus (((first|apply gives_go (isAtom4_sem _ _ _ _ _ _)|apply gives_go (number_sem _ _)|apply gives_go (atoms4Nil_sem _ _));(focus (exact DLes.au));(focus exact rfl);(all_goals (exact pre)))));(all_goals exact rfl))|exact side)))
       | ((with_reducible apply CallO.go);(conv=>whnf);(with_reducible apply SideD.mk);(focus (first|((apply giveso_go (atoms4O_sem _ _ _));(focus (first|exact rfl|(simp;done)));(focus (exact DLes.au));(focus exact rfl);(all_goals (exact pre))))))
       | ((with_reducible first|apply DrawR.go0|apply KerB.mk);(focus kernel_rfl))
       | (with_reducible first|apply ends_ret|apply ends_norm|apply Halt'.mk)
       | ((with_reducible apply CondD.mk)<;>intro hb<;>(try simp only [SPLT] at hb)<;>(try first|exact noB)))
     all_goals (try exact (false:Bool))
     repeat' ((conv=>whnf);first|exact endR|(with_reducible first|apply And.intro|apply endsO_ret|apply endsO_norm|apply DLes.cons))
     all_goals (conv=>whnf)
    | some x=>
     have hlt:=(List.getElem?_eq_some_iff.1 hx).1
     rw [atss_at hx] at hv
     rw [List.drop_eq_getElem_cons hlt,(List.getElem?_eq_some_iff.1 hx).2,acnts_cons] at hm
     have ih':=SemO.of (ih x (List.mem_of_getElem? hx) acc (by omega))
     have hl2:=ats_len x acc
     generalize x.ats acc=acc2 at ih' hv hl2
     obtain ⟨k1,ks1,p1,vs1,lo1,hi1⟩:=x
     rw [Cond.row_mk] at ih'
     repeat' (
      (conv=>whnf)
      first
       | ((try ((with_reducible first|apply NumE.go|apply IdxE.go|apply TextE.go|apply LookE.go|apply CallE.go);(conv=>whnf)));(with_reducible apply SideD.mk);(focus (first|(exact idx_row hx rfl)|((try apply givesl);(focus (((first|apply gives_go (isAtom4_sem _ _ _ _ _ _)|apply gives_go (number_sem _ _)|apply gives_go (atoms4Nil_sem _ _));(focus (exact DLes.au));(focus exact rfl);(all_goals (exact pre)))));(all_goals exact rfl))|exact side)))
       | ((with_reducible apply CallO.go);(conv=>whnf);(with_reducible apply SideD.mk);(focus (first|((apply giveso_go (ih'));(focus (first|exact rfl|(simp;done)));(focus (exact DLes.au));(focus exact rfl);(all_goals (exact pre))))))
       | ((with_reducible first|apply DrawR.go0|apply KerB.mk);(focus kernel_rfl))
       | (with_reducible first|apply ends_ret|apply ends_norm|apply Halt'.mk)
       | ((with_reducible apply CondD.mk)<;>intro hb<;>(try simp only [SPLT] at hb)<;>(try first|exact noB)))
     all_goals (try exact (false:Bool))
     refine ⟨(i+1,acc2),⟨by dsimp only;omega,by dsimp only;omega,hv⟩,by dsimp only;omega,?_⟩
     (conv=>whnf)
     refine ⟨?_,by rfl⟩
     repeat' ((conv=>whnf);first|exact endF|exact endF2|with_reducible apply DLes.cons)
theorem atoms4Nil_sem (c:Cond) (hn:c.acnt≤100000):Sem Tryz.prog 21 [.nil,.agg c.row] (.sl 0 6 ((c.ats []).map Cond.row)):=by
 obtain ⟨k,ks,p,vs,lo,hi⟩:=c
 have h1:=isAtom4_sem k (ks.map Cond.row) p (vs.map fun s => [.str s]) lo hi
 have h2:=(number_sem [] (.mk k ks p vs lo hi)).weak (args' := [.nil,.agg (Cond.mk k ks p vs lo hi).row]) (.cons (.nil _ _) (.cons (.refl _) .nil))
 rw [Cond.row_mk] at h2
 have hll:(ks.map Cond.row).length=ks.length:=List.length_map _
 have hol:(([]:List Cond).map Cond.row).length=([]:List Cond).length:=List.length_map _
 rw [acnt_mk] at hn
 rw [Cond.row_mk]
 refine sem_lenA 1 1 rfl rfl rfl fun hks => ?_
 rw [List.length_map] at hks
 rw [← Cond.row_mk]
 have hr:=ats_mk k ks p vs lo hi []
 have hq:=idxG_any (fun x:Cond=>x.same (.mk k ks p vs lo hi)) [] 0 (by omega)
 change decide (0≤numC [] (.mk k ks p vs lo hi))=hasC [] (.mk k ks p vs lo hi) at hq
 generalize (Cond.mk k ks p vs lo hi).ats []=r at hr ⊢
 generalize hasC [] (.mk k ks p vs lo hi)=b at hq hr
 generalize numC [] (.mk k ks p vs lo hi)=m at h2 hq
 generalize isAtomB k=q at h1 hr hn
 rw [Cond.row_mk]
 refine sem_intro (M:=fun t=>mem t [1000021,1000034,1000044]) hT hM Tryz.func21 inferInstance rfl rfl rfl rfl rfl rfl ?_
 repeat' (
  (conv=>whnf)
  first
   | ((try ((with_reducible first|apply NumE.go|apply IdxE.go|apply TextE.go|apply LookE.go|apply CallE.go);(conv=>whnf)));(with_reducible apply SideD.mk);(focus (first|((try apply givesl);(focus (first|((apply gives_go (h1));(focus (exact DLes.au));(focus exact rfl);(all_goals (exact pre)))|((apply gives_go (h2));(focus (exact DLes.au));(focus exact rfl);(all_goals (exact pre)))|((first|apply gives_go (isAtom4_sem _ _ _ _ _ _)|apply gives_go (number_sem _ _)|apply gives_go (atoms4Nil_sem _ _));(focus (exact DLes.au));(focus exact rfl);(all_goals (exact pre)))));(all_goals exact rfl))|exact side)))
   | ((with_reducible apply CallO.go);(conv=>whnf);(with_reducible apply SideD.mk);(focus (first|((apply giveso_go (atoms4O_sem _ _ _));(focus (first|exact rfl|(simp;done)));(focus (exact DLes.au));(focus exact rfl);(all_goals (exact pre))))))
   | ((with_reducible first|apply DrawR.go0|apply KerB.mk);(focus kernel_rfl))
   | (with_reducible first|apply ends_ret|apply ends_norm|apply Halt'.mk)
   | ((with_reducible apply CondD.mk)<;>intro hb<;>(try simp only [SPLT] at hb)<;>(try first|exact noB)))
 all_goals (try exact (false:Bool))
 ·rw [if_pos (by simp_all),if_neg (by rw [← hq];simp;omega)] at hr
  subst hr
  repeat' ((conv=>whnf);first|exact endR|(with_reducible first|apply And.intro|apply endsO_ret|apply endsO_norm|apply DLes.cons))
  all_goals (conv=>whnf)
  rw [List.nil_append,List.map_cons,List.map_nil,Cond.row_mk]
  exact rle_sl0 rfl
 ·rw [if_pos (by simp_all),if_pos (by rw [← hq];simp;omega)] at hr
  subst hr
  repeat' ((conv=>whnf);first|exact endR|(with_reducible first|apply And.intro|apply endsO_ret|apply endsO_norm|apply DLes.cons))
  all_goals (conv=>whnf)
 ·rw [if_neg (by simp_all)] at hr
  refine loop_go (M:=fun t=>mem t [1000021,1000034,1000044]) hT hM (fun x:Nat × List Cond => [(0,.sl 1 6 (x.2.map Cond.row)),(5,.int .i64 x.1)]) (fun x=>x.1≤ks.length∧x.2.length+Cond.acnts (ks.drop x.1)≤100000∧Cond.atss (ks.drop x.1) x.2=r) (fun x=>ks.length - x.1) ((0,[])) ?_ ?_ ?_
  ·(conv=>whnf)
   refine ⟨?_,by rfl⟩
   repeat' ((conv=>whnf);first|exact endF|exact endF2|with_reducible apply DLes.cons)
  ·exact ⟨Nat.zero_le _,by rw [if_neg (by simp_all)] at hn;simp;omega,hr.symm⟩
  ·rintro ⟨i,acc⟩ ⟨hi,hm,hv⟩
   dsimp only at hi hm hv ⊢
   cases hx:ks[i]? with
   | none=>
    have hm':=List.getElem?_eq_none_iff.1 hx
    rw [List.drop_of_length_le hm',atss_nil] at hv
    subst hv
    repeat' (
     (conv=>whnf)
     first
      | ((try ((with_reducible first|apply NumE.go|apply IdxE.go|apply TextE.go|apply LookE.go|apply CallE.go);(conv=>whnf)));(with_reducible apply SideD.mk);(focus (first|((try apply givesl);(focus (((first|apply gives_go (isAtom4_sem _ _ _ _ _ _)|apply gives_go (number_sem _ _)|apply gives_go (atoms4Nil_sem _ _));(focus (exact DLes.au));(focus exact rfl);(all_goals (exact pre)))));(all_goals exact rfl))|exact side)))
      | ((with_reducible apply CallO.go);(conv=>whnf);(with_reducible apply SideD.mk);(focus (first|((apply giveso_go (atoms4O_sem _ _ _));(focus (first|exact rfl|(simp;done)));(focus (exact DLes.au));(focus exact rfl);(all_goals (exact pre))))))
      | ((with_reducible first|apply DrawR.go0|apply KerB.mk);(focus kernel_rfl))
      | (with_reducible first|apply ends_ret|apply ends_norm|apply Halt'.mk)
      | ((with_reducible apply CondD.mk)<;>intro hb<;>(try simp only [SPLT] at hb)<;>(try first|exact noB)))
    all_goals (try exact (false:Bool))
    repeat' ((conv=>whnf);first|exact endR|(with_reducible first|apply And.intro|apply endsO_ret|apply endsO_norm|apply DLes.cons))
    all_goals (conv=>whnf)
   | some x=>
    have hlt:=(List.getElem?_eq_some_iff.1 hx).1
    rw [atss_at hx] at hv
    rw [List.drop_eq_getElem_cons hlt,(List.getElem?_eq_some_iff.1 hx).2,acnts_cons] at hm
    have ih':=SemO.of (atoms4_sem x acc (by omega))
    have hl2:=ats_len x acc
    generalize x.ats acc=acc2 at ih' hv hl2
    obtain ⟨k1,ks1,p1,vs1,lo1,hi1⟩:=x
    rw [Cond.row_mk] at ih'
    repeat' (
     (conv=>whnf)
     first
      | ((try ((with_reducible first|apply NumE.go|apply IdxE.go|apply TextE.go|apply LookE.go|apply CallE.go);(conv=>whnf)));(with_reducible apply SideD.mk);(focus (first|(exact idx_row hx rfl)|((try apply givesl);(focus (((first|apply gives_go (isAtom4_sem _ _ _ _ _ _)|apply gives_go (number_sem _ _)|apply gives_go (atoms4Nil_sem _ _));(focus (exact DLes.au));(focus exact rfl);(all_goals (exact pre)))));(all_goals exact rfl))|exact side)))
      | ((with_reducible apply CallO.go);(conv=>whnf);(with_reducible apply SideD.mk);(focus (first|((apply giveso_go (ih'));(focus (first|exact rfl|(simp;done)));(focus (exact DLes.au));(focus exact rfl);(all_goals (exact pre))))))
      | ((with_reducible first|apply DrawR.go0|apply KerB.mk);(focus kernel_rfl))
      | (with_reducible first|apply ends_ret|apply ends_norm|apply Halt'.mk)
      | ((with_reducible apply CondD.mk)<;>intro hb<;>(try simp only [SPLT] at hb)<;>(try first|exact noB)))
    all_goals (try exact (false:Bool))
    refine ⟨(i+1,acc2),⟨by dsimp only;omega,by dsimp only;omega,hv⟩,by dsimp only;omega,?_⟩
    (conv=>whnf)
    refine ⟨?_,by rfl⟩
    repeat' ((conv=>whnf);first|exact endF|exact endF2|with_reducible apply DLes.cons)
theorem atomsO_sem (c:Cond) (out:List Cond) (h:out.length+c.acnt≤100000):SemO Tryz.prog 34 (.sl 1 6 (out.map Cond.row)) [.agg c.row] (.sl 1 6 ((c.ats out).map Cond.row)) none:=SemO.of (atoms_sem c out h)
theorem atoms4O_sem (c:Cond) (out:List Cond) (h:out.length+c.acnt≤100000):SemO Tryz.prog 21 (.sl 1 6 (out.map Cond.row)) [.agg c.row] (.sl 1 6 ((c.ats out).map Cond.row)) none:=SemO.of (atoms4_sem c out h)
end Go.Proofs.YtnlbekongmkmjaaGreatDoor
namespace Go.Proofs.YtnlbekongmkmjaaGreatDoor
set_option linter.unusedSimpArgs false
set_option linter.unusedVariables false
open Go.RowKit
set_option maxRecDepth 100000
set_option maxHeartbeats 4000000
theorem bit_one {a bits:Int} (h0:0≤bits):(bitsI .and .i64 (bits / 2 ^ a.toNat) 1 == 1)=bitZ a bits:=by
 have h2:(0:Int)≤bits / 2 ^ a.toNat:=Int.ediv_nonneg h0 (Int.le_of_lt (Int.pow_pos (by decide)))
 unfold bitZ
 generalize bits / 2 ^ a.toNat=p at h2
 obtain ⟨n,rfl⟩:∃ n:Nat,p=n:=⟨p.toNat,by omega⟩
 have e:(BitVec.ofInt 64 (n:Int) &&& BitVec.ofInt 64 1).toNat=n % 2:=by
  rw [BitVec.toNat_and,show (BitVec.ofInt 64 1).toNat=1 from rfl,Nat.and_one_is_mod,BitVec.ofInt_natCast,BitVec.toNat_ofNat]
  exact Nat.mod_mod_of_dvd _ (by decide)
 show (IntKind.i64.wrap ((BitVec.ofInt 64 (n:Int) &&& BitVec.ofInt 64 1).toNat:Int) == 1)=_
 rw [e]
 rcases Nat.mod_two_eq_zero_or_one n with h|h
 ·rw [h]
  have:(n:Int) % 2=0:=by omega
  rw [this];rfl
 ·rw [h]
  have:(n:Int) % 2=1:=by omega
  rw [this];rfl
theorem indexFuncF_sem (l:List Form) (f:Nat) (cp:List D) (q:Form→Bool) (hq:∀ a ∈ l,Sem Tryz.prog f [.agg a.row,.ptr cp] (.bool (q a))):Sem Tryz.prog 116 [.sl 0 3 (l.map Form.row),.fn f [.ptr cp]] (.int .i64 (idxG q l 0)):=by
 refine sem_len 0 rfl rfl fun hl => ?_
 rw [List.length_map] at hl
 refine sem_intro (M:=fun t=>mem t [1000021,1000034,1000044]) hT hM Tryz.func116 inferInstance rfl rfl rfl rfl rfl rfl ?_
 repeat' (
  (conv=>whnf)
  first
   | ((try ((with_reducible first|apply NumE.go|apply IdxE.go|apply TextE.go|apply LookE.go|apply CallE.go);(conv=>whnf)));(with_reducible apply SideD.mk);(focus (first|exact side)))
   | ((with_reducible first|apply DrawR.go0|apply KerB.mk);(focus kernel_rfl))
   | (with_reducible first|apply ends_ret|apply ends_norm|apply Halt'.mk)
   | ((with_reducible apply CondD.mk)<;>intro hb<;>(try simp only [SPLT] at hb)<;>(try first|exact noB)))
 all_goals (try exact (false:Bool))
 refine loop_go (M:=fun t=>mem t [1000021,1000034,1000044]) hT hM (fun k:Nat => [(8,.int .i64 k)]) (fun k=>k≤l.length∧idxG q (l.drop k) k=idxG q l 0) (fun k=>l.length - k) (0) ?_ ?_ ?_
 ·(conv=>whnf)
  refine ⟨?_,by rfl⟩
  repeat' ((conv=>whnf);first|exact endF|exact endF2|with_reducible apply DLes.cons)
 ·exact ⟨Nat.zero_le _,rfl⟩
 ·rintro k ⟨hk,hi⟩
  rcases hx:l[k]? with _|a
  ·have hk':k=l.length:=by have:=List.getElem?_eq_none_iff.1 hx;omega
   subst hk'
   rw [List.drop_length] at hi
   repeat' (
    (conv=>whnf)
    first
     | ((try ((with_reducible first|apply NumE.go|apply IdxE.go|apply TextE.go|apply LookE.go|apply CallE.go);(conv=>whnf)));(with_reducible apply SideD.mk);(focus (first|exact side)))
     | ((with_reducible first|apply DrawR.go0|apply KerB.mk);(focus kernel_rfl))
     | (with_reducible first|apply ends_ret|apply ends_norm|apply Halt'.mk)
     | ((with_reducible apply CondD.mk)<;>intro hb<;>(try simp only [SPLT] at hb)<;>(try first|exact noB)))
   all_goals (try exact (false:Bool))
   repeat' ((conv=>whnf);first|exact endR|(with_reducible first|apply And.intro|apply endsO_ret|apply endsO_norm|apply DLes.cons))
   all_goals (conv=>whnf)
   exact rle_int hi
  ·have hlt:=(List.getElem?_eq_some_iff.1 hx).1
   have hc:=hq a (List.mem_of_getElem? hx)
   rw [idxG_at hx] at hi
   generalize q a=b at hc hi
   obtain ⟨k1,a1,fs1⟩:=a
   rw [Form.row_mk] at hc
   repeat' (
    (conv=>whnf)
    first
     | ((try ((with_reducible first|apply NumE.go|apply IdxE.go|apply TextE.go|apply LookE.go|apply CallE.go);(conv=>whnf)));(with_reducible apply SideD.mk);(focus (first|(exact idx_form hx rfl)|((try apply givesl);(focus (((apply gives_go (hc));(focus (exact DLes.au));(focus exact rfl);(all_goals (exact pre)))));(all_goals exact rfl))|exact side)))
     | ((with_reducible first|apply DrawR.go0|apply KerB.mk);(focus kernel_rfl))
     | (with_reducible first|apply ends_ret|apply ends_norm|apply Halt'.mk)
     | ((with_reducible apply CondD.mk)<;>intro hb<;>(try simp only [SPLT] at hb)<;>(try first|exact noB)))
   all_goals (try exact (false:Bool))
   ·repeat' ((conv=>whnf);first|exact endR|(with_reducible first|apply And.intro|apply endsO_ret|apply endsO_norm|apply DLes.cons))
    all_goals (conv=>whnf)
    exact rle_int (by rw [← hi,if_pos hb])
   ·refine ⟨k+1,⟨by omega,by rw [← hi,if_neg (by simp [hb])]⟩,by omega,?_⟩
    (conv=>whnf)
    refine ⟨?_,by rfl⟩
    repeat' ((conv=>whnf);first|exact endF|exact endF2|with_reducible apply DLes.cons)
theorem containsFuncF_sem (l:List Form) (f:Nat) (cp:List D) (q:Form→Bool) (hq:∀ a ∈ l,Sem Tryz.prog f [.agg a.row,.ptr cp] (.bool (q a))):Sem Tryz.prog 74 [.sl 0 3 (l.map Form.row),.fn f [.ptr cp]] (.bool (l.any q)):=by
 have hI:=indexFuncF_sem l f cp q hq
 refine sem_intro (M:=fun t=>mem t [1000021,1000034,1000044]) hT hM Tryz.func74 inferInstance rfl rfl rfl rfl rfl rfl ?_
 repeat' (
  (conv=>whnf)
  first
   | ((try ((with_reducible first|apply NumE.go|apply IdxE.go|apply TextE.go|apply LookE.go|apply CallE.go);(conv=>whnf)));(with_reducible apply SideD.mk);(focus (first|((try apply givesl);(focus (first|((apply gives_go (hI));(focus (exact DLes.au));(focus exact rfl);(all_goals (exact pre)))|((apply gives_go (indexFuncF_sem _ _ _ _ _));(focus (exact DLes.au));(focus exact rfl);(all_goals (exact pre)))));(all_goals exact rfl))|exact side)))
   | ((with_reducible first|apply DrawR.go0|apply KerB.mk);(focus kernel_rfl))
   | (with_reducible first|apply ends_ret|apply ends_norm|apply Halt'.mk)
   | ((with_reducible apply CondD.mk)<;>intro hb<;>(try simp only [SPLT] at hb)<;>(try first|exact noB)))
 all_goals (try exact (false:Bool))
 repeat' ((conv=>whnf);first|exact endR|(with_reducible first|apply And.intro|apply endsO_ret|apply endsO_norm|apply DLes.cons))
 all_goals (conv=>whnf)
 exact rle_bool (idxG_any q l 0 (by omega))
theorem true1_sem (x:Form) (bits:Int) (h:Sem Tryz.prog 36 [.agg x.row,.int .i64 bits] (.bool (x.tv bits))):Sem Tryz.prog 75 [.agg x.row,.ptr [.int .i64 bits]] (.bool (!x.tv bits)):=by
 generalize x.tv bits=r at h ⊢
 obtain ⟨k,a,fs⟩:=x
 rw [Form.row_mk] at h ⊢
 refine sem_intro (M:=fun t=>mem t [1000021,1000034,1000044]) hT hM Tryz.func75 inferInstance rfl rfl rfl rfl rfl rfl ?_
 repeat' (
  (conv=>whnf)
  first
   | ((try ((with_reducible first|apply NumE.go|apply IdxE.go|apply TextE.go|apply LookE.go|apply CallE.go);(conv=>whnf)));(with_reducible apply SideD.mk);(focus (first|((try apply givesl);(focus (first|((apply gives_go (h));(focus (exact DLes.au));(focus exact rfl);(all_goals (exact pre)))|((apply gives_go (true1_sem _ _));(focus (exact DLes.au));(focus exact rfl);(all_goals (exact pre)))|((apply gives_go (true2_sem _ _));(focus (exact DLes.au));(focus exact rfl);(all_goals (exact pre)))));(all_goals exact rfl))|exact side)))
   | ((with_reducible first|apply DrawR.go0|apply KerB.mk);(focus kernel_rfl))
   | (with_reducible first|apply ends_ret|apply ends_norm|apply Halt'.mk)
   | ((with_reducible apply CondD.mk)<;>intro hb<;>(try simp only [SPLT] at hb)<;>(try first|exact noB)))
 all_goals (try exact (false:Bool))
 repeat' ((conv=>whnf);first|exact endR|(with_reducible first|apply And.intro|apply endsO_ret|apply endsO_norm|apply DLes.cons))
 all_goals (conv=>whnf)
theorem true2_sem (x:Form) (bits:Int) (h:Sem Tryz.prog 36 [.agg x.row,.int .i64 bits] (.bool (x.tv bits))):Sem Tryz.prog 76 [.agg x.row,.ptr [.int .i64 bits]] (.bool (x.tv bits)):=by
 generalize x.tv bits=r at h ⊢
 obtain ⟨k,a,fs⟩:=x
 rw [Form.row_mk] at h ⊢
 refine sem_intro (M:=fun t=>mem t [1000021,1000034,1000044]) hT hM Tryz.func76 inferInstance rfl rfl rfl rfl rfl rfl ?_
 repeat' (
  (conv=>whnf)
  first
   | ((try ((with_reducible first|apply NumE.go|apply IdxE.go|apply TextE.go|apply LookE.go|apply CallE.go);(conv=>whnf)));(with_reducible apply SideD.mk);(focus (first|((try apply givesl);(focus (first|((apply gives_go (h));(focus (exact DLes.au));(focus exact rfl);(all_goals (exact pre)))|((apply gives_go (true1_sem _ _));(focus (exact DLes.au));(focus exact rfl);(all_goals (exact pre)))|((apply gives_go (true2_sem _ _));(focus (exact DLes.au));(focus exact rfl);(all_goals (exact pre)))));(all_goals exact rfl))|exact side)))
   | ((with_reducible first|apply DrawR.go0|apply KerB.mk);(focus kernel_rfl))
   | (with_reducible first|apply ends_ret|apply ends_norm|apply Halt'.mk)
   | ((with_reducible apply CondD.mk)<;>intro hb<;>(try simp only [SPLT] at hb)<;>(try first|exact noB)))
 all_goals (try exact (false:Bool))
 repeat' ((conv=>whnf);first|exact endR|(with_reducible first|apply And.intro|apply endsO_ret|apply endsO_norm|apply DLes.cons))
 all_goals (conv=>whnf)
theorem isTrue_sem (f:Form):f.Ok→∀ bits:Int,0≤bits→Sem Tryz.prog 36 [.agg f.row,.int .i64 bits] (.bool (f.tv bits)):=by
 induction f using Form.ind with
 | h k a fs ih=>
  intro hO bits h0
  obtain ⟨o1,o2,o3⟩:=hO
  have hA:=containsFuncF_sem fs 75 [.int .i64 bits] (fun x => !x.tv bits) fun x hx=>true1_sem x bits (ih x hx (o3 x hx) bits h0)
  have hB:=containsFuncF_sem fs 76 [.int .i64 bits] (fun x=>x.tv bits) fun x hx=>true2_sem x bits (ih x hx (o3 x hx) bits h0)
  have hr:=ftv_mk bits k a fs
  rw [tvA_all,tvO_any] at hr
  generalize (fs.any fun f => !f.tv bits)=qa at hA hr
  generalize (fs.any fun f=>f.tv bits)=qb at hB hr
  generalize (Form.mk k a fs).tv bits=r at hr ⊢
  rw [Form.row_mk]
  by_cases hk3:k=3
  ·subst hk3
   obtain ⟨y,hy⟩:∃ y,fs[0]?=some y:=by
    have h:=o1 rfl
    cases fs with
    | nil=>exact absurd rfl h
    | cons a t=>exact ⟨_,rfl⟩
   have ih':=ih y (List.mem_of_getElem? hy) (o3 y (List.mem_of_getElem? hy)) bits h0
   rw [if_neg (by decide),if_neg (by decide),if_pos rfl,tvH_at hy] at hr
   generalize y.tv bits=q at ih' hr
   obtain ⟨k1,a1,fs1⟩:=y
   rw [Form.row_mk] at ih'
   refine sem_intro (M:=fun t=>mem t [1000021,1000034,1000044]) hT hM Tryz.func36 inferInstance rfl rfl rfl rfl rfl rfl ?_
   repeat' (
    (conv=>whnf)
    first
     | ((try ((with_reducible first|apply NumE.go|apply IdxE.go|apply TextE.go|apply LookE.go|apply CallE.go);(conv=>whnf)));(with_reducible apply SideD.mk);(focus (first|(exact idx_form hy rfl)|((try apply givesl);(focus (first|((apply gives_go (ih'));(focus (exact DLes.au));(focus exact rfl);(all_goals (exact pre)))|((apply gives_go (true1_sem _ _));(focus (exact DLes.au));(focus exact rfl);(all_goals (exact pre)))|((first|apply gives_go (containsFuncF_sem _ _ _ _ _)|apply gives_go (true2_sem _ _));(focus (exact DLes.au));(focus exact rfl);(all_goals (exact pre)))));(all_goals exact rfl))|exact side)))
     | ((with_reducible first|apply DrawR.go0|apply KerB.mk);(focus kernel_rfl))
     | (with_reducible first|apply ends_ret|apply ends_norm|apply Halt'.mk)
     | ((with_reducible apply CondD.mk)<;>intro hb<;>(try simp only [SPLT] at hb)<;>(try first|exact noB)))
   all_goals (try exact (false:Bool))
   repeat' ((conv=>whnf);first|exact endR|(with_reducible first|apply And.intro|apply endsO_ret|apply endsO_norm|apply DLes.cons))
   all_goals (conv=>whnf)
   exact rle_bool hr.symm
  ·by_cases hk1:k=1
   ·subst hk1
    rw [if_pos rfl] at hr
    refine sem_intro (M:=fun t=>mem t [1000021,1000034,1000044]) hT hM Tryz.func36 inferInstance rfl rfl rfl rfl rfl rfl ?_
    repeat' (
     (conv=>whnf)
     first
      | ((try ((with_reducible first|apply NumE.go|apply IdxE.go|apply TextE.go|apply LookE.go|apply CallE.go);(conv=>whnf)));(with_reducible apply SideD.mk);(focus (first|((try apply givesl);(focus (first|((apply gives_go (hA));(focus (exact DLes.au));(focus exact rfl);(all_goals (exact pre)))|((apply gives_go (true1_sem _ _));(focus (exact DLes.au));(focus exact rfl);(all_goals (exact pre)))|((first|apply gives_go (containsFuncF_sem _ _ _ _ _)|apply gives_go (true2_sem _ _));(focus (exact DLes.au));(focus exact rfl);(all_goals (exact pre)))));(all_goals exact rfl))|exact side)))
      | ((with_reducible first|apply DrawR.go0|apply KerB.mk);(focus kernel_rfl))
      | (with_reducible first|apply ends_ret|apply ends_norm|apply Halt'.mk)
      | ((with_reducible apply CondD.mk)<;>intro hb<;>(try simp only [SPLT] at hb)<;>(try first|exact noB)))
    all_goals (try exact (false:Bool))
    repeat' ((conv=>whnf);first|exact endR|(with_reducible first|apply And.intro|apply endsO_ret|apply endsO_norm|apply DLes.cons))
    all_goals (conv=>whnf)
    exact rle_bool hr.symm
   ·rw [if_neg hk1] at hr
    by_cases hk2:k=2
    ·subst hk2
     rw [if_pos rfl] at hr
     refine sem_intro (M:=fun t=>mem t [1000021,1000034,1000044]) hT hM Tryz.func36 inferInstance rfl rfl rfl rfl rfl rfl ?_
     repeat' (
      (conv=>whnf)
      first
       | ((try ((with_reducible first|apply NumE.go|apply IdxE.go|apply TextE.go|apply LookE.go|apply CallE.go);(conv=>whnf)));(with_reducible apply SideD.mk);(focus (first|((try apply givesl);(focus (first|((apply gives_go (hB));(focus (exact DLes.au));(focus exact rfl);(all_goals (exact pre)))|((apply gives_go (true1_sem _ _));(focus (exact DLes.au));(focus exact rfl);(all_goals (exact pre)))|((first|apply gives_go (containsFuncF_sem _ _ _ _ _)|apply gives_go (true2_sem _ _));(focus (exact DLes.au));(focus exact rfl);(all_goals (exact pre)))));(all_goals exact rfl))|exact side)))
       | ((with_reducible first|apply DrawR.go0|apply KerB.mk);(focus kernel_rfl))
       | (with_reducible first|apply ends_ret|apply ends_norm|apply Halt'.mk)
       | ((with_reducible apply CondD.mk)<;>intro hb<;>(try simp only [SPLT] at hb)<;>(try first|exact noB)))
     all_goals (try exact (false:Bool))
     repeat' ((conv=>whnf);first|exact endR|(with_reducible first|apply And.intro|apply endsO_ret|apply endsO_norm|apply DLes.cons))
     all_goals (conv=>whnf)
     exact rle_bool hr.symm
    ·rw [if_neg hk2,if_neg hk3] at hr
     obtain ⟨p1,p2⟩:=o2 hk1 hk2 hk3
     refine sem_intro (M:=fun t=>mem t [1000021,1000034,1000044]) hT hM Tryz.func36 inferInstance rfl rfl rfl rfl rfl rfl ?_
     repeat' (
      (conv=>whnf)
      first
       | ((try ((with_reducible first|apply NumE.go|apply IdxE.go|apply TextE.go|apply LookE.go|apply CallE.go);(conv=>whnf)));(with_reducible apply SideD.mk);(focus (first|(exact ⟨p1,by show a≤64;omega,rfl⟩)|(exact rfl)|((try apply givesl);(focus (first|((apply gives_go (true1_sem _ _));(focus (exact DLes.au));(focus exact rfl);(all_goals (exact pre)))|((first|apply gives_go (containsFuncF_sem _ _ _ _ _)|apply gives_go (true2_sem _ _));(focus (exact DLes.au));(focus exact rfl);(all_goals (exact pre)))));(all_goals exact rfl))|exact side)))
       | ((with_reducible first|apply DrawR.go0|apply KerB.mk);(focus kernel_rfl))
       | (with_reducible first|apply ends_ret|apply ends_norm|apply Halt'.mk)
       | ((with_reducible apply CondD.mk)<;>intro hb<;>(try simp only [SPLT] at hb)<;>(try first|exact noB)))
     all_goals (try exact (false:Bool))
     repeat' ((conv=>whnf);first|exact endR|(with_reducible first|apply And.intro|apply endsO_ret|apply endsO_norm|apply DLes.cons))
     all_goals (conv=>whnf)
     exact rle_bool (by rw [hr,bit_one h0])
end Go.Proofs.YtnlbekongmkmjaaGreatDoor
namespace Go.Proofs.YtnlbekongmkmjaaGreatDoor
set_option linter.unusedSimpArgs false
set_option linter.unusedVariables false
open Go.RowKit
set_option maxRecDepth 100000
set_option maxHeartbeats 4000000
def idl35_7:List (List Bool) := [[false,false,false,false,false,false,false,false,false],[true,false,false,false,false,false,false,false,false],[false,false,true,false,false,false,false,false,false],[false,false,false,true,false,false,false,false,false],[true,true,false,false,false,false,false,false,false],[true,false,true,false,false,false,false,false,false],[true,false,false,true,false,false,false,false,false],[false,false,true,true,false,false,false,false,false],[true,true,true,false,false,false,false,false,false],[true,true,false,true,false,false,false,false,false],[true,false,true,true,false,false,false,false,false],[false,false,true,true,true,false,false,false,false],[true,true,true,true,false,false,false,false,false],[true,false,true,true,true,false,false,false,false],[false,false,true,true,true,true,false,false,false],[true,true,true,true,true,false,false,false,false],[true,false,true,true,true,true,false,false,false],[true,true,true,true,true,true,false,false,false],[true,true,true,true,true,true,true,false,false],[true,true,true,true,true,true,true,true,false],[true,true,true,true,true,true,true,true,true]]
/-- Own slices are given up for good ahead of a piece of code. -/
theorem ht_frzI {P:Program} (ts:List Nat) {c:Code} {fr:List D} {Q:Exit→List D→Prop} (h:forceL (ts.foldl (fun fr t=>frz1 fr (.tmp t)) fr) fun fr=>HT P c fr Q):HT P c fr Q:=by
 rw [forceL_eq] at h
 refine ⟨fun S w a hF Q' hQ => ?_⟩
 obtain ⟨S1,t1,h1⟩:=fold_sound (fun S fr t h=>frz1_sound h (.tmp t)) ts _ _ hF
 exact h.h S1 w a h1 Q' fun e fr' S' w' a' k t f=>hQ e fr' S' w' a' k (t1.trans t) f
theorem fo1_sem (x c:Cond):Sem Tryz.prog 72 [.agg x.row,.ptr c.row] (.bool (x.same c)):=by
 have h:=ruSame_sem x c
 generalize x.same c=r at h ⊢
 obtain ⟨k,ks,p,vs,lo,hi⟩:=x
 obtain ⟨k1,ks1,p1,vs1,lo1,hi1⟩:=c
 rw [Cond.row_mk,Cond.row_mk] at h ⊢
 refine sem_intro (M:=fun t=>mem t [1000021,1000034,1000044]) hT hM Tryz.func72 inferInstance rfl rfl rfl rfl rfl rfl ?_
 repeat' (
  (conv=>whnf)
  first
   | ((try ((with_reducible first|apply NumE.go|apply IdxE.go|apply TextE.go|apply LookE.go|apply CallE.go);(conv=>whnf)));(with_reducible apply SideD.mk);(focus (first|((try apply givesl);(focus (((apply gives_go (h));(focus (exact DLes.au));(focus exact rfl);(all_goals (exact pre)))));(all_goals exact rfl))|exact side)))
   | ((with_reducible first|apply DrawR.go0|apply KerB.mk);(focus kernel_rfl))
   | (with_reducible first|apply ends_ret|apply ends_norm|apply Halt'.mk)
   | ((with_reducible apply CondD.mk)<;>intro hb<;>(try simp only [SPLT] at hb)<;>(try first|exact noB)))
 all_goals (try exact (false:Bool))
 repeat' ((conv=>whnf);first|exact endR|(with_reducible first|apply And.intro|apply endsO_ret|apply endsO_norm|apply DLes.cons))
 all_goals (conv=>whnf)
/-- The list that grows in the formula: nothing yet, or one's own. -/
def cellF:Nat→List Form→D
 | 0,_=>.nil
 | s+1,acc=>.sl (s+1) 3 (acc.map Form.row)
theorem formulaOf_sem (L:List Cond) (c:Cond):c.Small→Sem Tryz.prog 35 [.sl 0 6 (L.map Cond.row),.agg c.row] (.agg (c.form L).row):=by
 induction c using Cond.ind with
 | h k ks p vs lo hi ih=>
  intro hS
  obtain ⟨s1,s2,s3⟩:=hS
  have hll:(ks.map Cond.row).length=ks.length:=List.length_map _
  have hat:=isAtom_sem k (ks.map Cond.row) p (vs.map fun s => [.str s]) lo hi
  have hI:Sem Tryz.prog 71 [.sl 0 6 (L.map Cond.row),.fn 72 [.ptr (Cond.mk k ks p vs lo hi).row]] (.int .i64 (numC L (.mk k ks p vs lo hi))):=
   indexFuncC_sem L 72 (Cond.mk k ks p vs lo hi).row (fun x=>x.same (.mk k ks p vs lo hi)) fun a _=>fo1_sem a _
  rw [Cond.row_mk] at hI
  have hr:=form_mk L k ks p vs lo hi
  generalize numC L (.mk k ks p vs lo hi)=nn at hI hr
  generalize (Cond.mk k ks p vs lo hi).form L=R at hr ⊢
  generalize isAtomB k=q at hat hr
  obtain ⟨k9,a9,fs9⟩:=R
  rw [Cond.row_mk,Form.row_mk]
  refine sem_intro (M:=fun t=>mem t [4,5,4000005,7,5000007,1000021,1000034,1000044]) hT hM Tryz.func35 inferInstance rfl rfl rfl rfl rfl rfl ?_
  repeat' (
   (conv=>whnf)
   first
    | ((with_reducible apply DrawI.at 26 idl35_7);(focus exact rfl);(focus kernel_rfl))
    | with_reducible apply ExE.go
    | ((with_reducible apply EqF.mk);(focus exact rfl))
    | with_reducible apply AndI.mk
    | with_reducible exact trivial
    | ((try ((with_reducible first|apply NumE.go|apply IdxE.go|apply TextE.go|apply LookE.go|apply CallE.go);(conv=>whnf)));(with_reducible apply SideD.mk);(focus (first|((try apply givesl);(focus (first|((apply gives_go (hat));(focus (exact DLes.au));(focus exact rfl);(all_goals (exact pre)))|((apply gives_go (hI));(focus (exact DLes.au));(focus exact rfl);(all_goals (exact pre)))|((first|apply gives_go (isAtom_sem _ _ _ _ _ _)|apply gives_go (indexFuncC_sem _ _ _ _ _));(focus (exact DLes.au));(focus exact rfl);(all_goals (exact pre)))));(all_goals exact rfl))|exact side)))
    | ((with_reducible first|apply DrawR.go0|apply KerB.mk);(focus kernel_rfl))
    | (with_reducible first|apply ends_ret|apply ends_norm|apply Halt'.mk)
    | ((with_reducible apply CondD.mk)<;>intro hb<;>(try simp only [SPLT] at hb)<;>(try first|exact noB)))
  all_goals (try exact (false:Bool))
  ·rw [if_pos (by simp_all)] at hr
   cases hr
   repeat' ((conv=>whnf);first|exact endR|(with_reducible first|apply And.intro|apply endsO_ret|apply endsO_norm|apply DLes.cons))
   all_goals (conv=>whnf)
   (first|refine rle_agg ?_|refine dle_agg ?_|skip)
   repeat' (first|exact endF|exact endF2|with_reducible apply DLes.cons|with_reducible apply dle_agg)
  ·rw [if_neg (by simp_all),forms_map] at hr
   injection hr with e1 e2 e3
   have e1:=e1.symm
   subst e1 e2
   refine loop_go (M:=fun t=>mem t [4,5,4000005,7,5000007,1000021,1000034,1000044]) hT hM (fun x:Nat × List Form × Nat => [(22,.int .i64 x.1),(5,.obj [.int .i64 k,.int .i64 0,cellF x.2.2 x.2.1])]) (fun x=>x.1≤ks.length∧x.2.1=(ks.take x.1).map (Cond.form L)∧x.2.2≤2∧(x.2.2=0→x.2.1 = [])) (fun x=>ks.length - x.1) ((0,[],0)) ?_ ?_ ?_
   ·(conv=>whnf)
    refine ⟨?_,by rfl⟩
    repeat' ((conv=>whnf);first|exact endF|exact endF2|with_reducible apply DLes.cons)
   ·exact ⟨Nat.zero_le _,rfl,by simp,by simp⟩
   ·rintro ⟨i,acc,s⟩ ⟨hi',hv,hs2,hs0⟩
    dsimp only at hi' hv hs2 hs0 ⊢
    have hacl:(acc.map Form.row).length=acc.length:=List.length_map _
    have hac2:acc.length≤1000:=by rw [hv,List.length_map,List.length_take];omega
    cases hx:ks[i]? with
    | none=>
     have hm':=List.getElem?_eq_none_iff.1 hx
     rw [List.take_of_length_le hm',← e3] at hv
     subst hv
     rcases s with _|_|_|s
     ·obtain rfl:=hs0 rfl
      repeat' (
       (conv=>whnf)
       first
        | ((with_reducible apply DrawI.at 26 idl35_7);(focus exact rfl);(focus kernel_rfl))
        | with_reducible apply ExE.go
        | ((with_reducible apply EqF.mk);(focus exact rfl))
        | with_reducible apply AndI.mk
        | with_reducible exact trivial
        | ((try ((with_reducible first|apply NumE.go|apply IdxE.go|apply TextE.go|apply LookE.go|apply CallE.go);(conv=>whnf)));(with_reducible apply SideD.mk);(focus (first|((try apply givesl);(focus (((first|apply gives_go (isAtom_sem _ _ _ _ _ _)|apply gives_go (indexFuncC_sem _ _ _ _ _));(focus (exact DLes.au));(focus exact rfl);(all_goals (exact pre)))));(all_goals exact rfl))|exact side)))
        | ((with_reducible first|apply DrawR.go0|apply KerB.mk);(focus kernel_rfl))
        | (with_reducible first|apply ends_ret|apply ends_norm|apply Halt'.mk)
        | ((with_reducible apply CondD.mk)<;>intro hb<;>(try simp only [SPLT] at hb)<;>(try first|exact noB)))
      all_goals (try exact (false:Bool))
      repeat' ((conv=>whnf);first|exact endR|(with_reducible first|apply And.intro|apply endsO_ret|apply endsO_norm|apply DLes.cons))
      all_goals (conv=>whnf)
      (first|refine rle_agg ?_|refine dle_agg ?_|skip)
      repeat' (first|exact endF|exact endF2|with_reducible apply DLes.cons|with_reducible apply dle_agg)
     ·repeat' (
       (conv=>whnf)
       first
        | ((with_reducible apply DrawI.at 26 idl35_7);(focus exact rfl);(focus kernel_rfl))
        | with_reducible apply ExE.go
        | ((with_reducible apply EqF.mk);(focus exact rfl))
        | with_reducible apply AndI.mk
        | with_reducible exact trivial
        | ((try ((with_reducible first|apply NumE.go|apply IdxE.go|apply TextE.go|apply LookE.go|apply CallE.go);(conv=>whnf)));(with_reducible apply SideD.mk);(focus (first|((try apply givesl);(focus (((first|apply gives_go (isAtom_sem _ _ _ _ _ _)|apply gives_go (indexFuncC_sem _ _ _ _ _));(focus (exact DLes.au));(focus exact rfl);(all_goals (exact pre)))));(all_goals exact rfl))|exact side)))
        | ((with_reducible first|apply DrawR.go0|apply KerB.mk);(focus kernel_rfl))
        | (with_reducible first|apply ends_ret|apply ends_norm|apply Halt'.mk)
        | ((with_reducible apply CondD.mk)<;>intro hb<;>(try simp only [SPLT] at hb)<;>(try first|exact noB)))
      all_goals (try exact (false:Bool))
      repeat' ((conv=>whnf);first|exact endR|(with_reducible first|apply And.intro|apply endsO_ret|apply endsO_norm|apply DLes.cons))
      all_goals (conv=>whnf)
      (first|refine rle_agg ?_|refine dle_agg ?_|skip)
      repeat' (first|exact endF|exact endF2|with_reducible apply DLes.cons|with_reducible apply dle_agg)
     ·repeat' (
       (conv=>whnf)
       first
        | ((with_reducible apply DrawI.at 26 idl35_7);(focus exact rfl);(focus kernel_rfl))
        | with_reducible apply ExE.go
        | ((with_reducible apply EqF.mk);(focus exact rfl))
        | with_reducible apply AndI.mk
        | with_reducible exact trivial
        | ((try ((with_reducible first|apply NumE.go|apply IdxE.go|apply TextE.go|apply LookE.go|apply CallE.go);(conv=>whnf)));(with_reducible apply SideD.mk);(focus (first|((try apply givesl);(focus (((first|apply gives_go (isAtom_sem _ _ _ _ _ _)|apply gives_go (indexFuncC_sem _ _ _ _ _));(focus (exact DLes.au));(focus exact rfl);(all_goals (exact pre)))));(all_goals exact rfl))|exact side)))
        | ((with_reducible first|apply DrawR.go0|apply KerB.mk);(focus kernel_rfl))
        | (with_reducible first|apply ends_ret|apply ends_norm|apply Halt'.mk)
        | ((with_reducible apply CondD.mk)<;>intro hb<;>(try simp only [SPLT] at hb)<;>(try first|exact noB)))
      all_goals (try exact (false:Bool))
      repeat' ((conv=>whnf);first|exact endR|(with_reducible first|apply And.intro|apply endsO_ret|apply endsO_norm|apply DLes.cons))
      all_goals (conv=>whnf)
      (first|refine rle_agg ?_|refine dle_agg ?_|skip)
      repeat' (first|exact endF|exact endF2|with_reducible apply DLes.cons|with_reducible apply dle_agg)
     ·omega
    | some x=>
     have hxm:x ∈ ks:=List.mem_of_getElem? hx
     have hlt:=(List.getElem?_eq_some_iff.1 hx).1
     have ih':=ih x hxm (s3 x hxm)
     have hv2:acc ++ [x.form L]=(ks.take (i+1)).map (Cond.form L):=by rw [take_at hx,List.map_append,List.map_cons,List.map_nil,hv]
     generalize x.form L=y at ih' hv2
     obtain ⟨k1,ks1,p1,vs1,lo1,hi1⟩:=x
     obtain ⟨k3,a3,fs3⟩:=y
     rw [Cond.row_mk,Form.row_mk] at ih'
     rcases s with _|_|_|s
     ·obtain rfl:=hs0 rfl
      repeat' (
       (conv=>whnf)
       first
        | ((with_reducible apply DrawI.at 26 idl35_7);(focus exact rfl);(focus kernel_rfl))
        | with_reducible apply ExE.go
        | ((with_reducible apply EqF.mk);(focus exact rfl))
        | with_reducible apply AndI.mk
        | with_reducible exact trivial
        | ((try ((with_reducible first|apply NumE.go|apply IdxE.go|apply TextE.go|apply LookE.go|apply CallE.go);(conv=>whnf)));(with_reducible apply SideD.mk);(focus (first|(exact idx_row hx rfl)|((try apply givesl);(focus (first|((apply gives_go (ih'));(focus (exact DLes.au));(focus exact rfl);(all_goals (exact pre)))|((first|apply gives_go (isAtom_sem _ _ _ _ _ _)|apply gives_go (indexFuncC_sem _ _ _ _ _));(focus (exact DLes.au));(focus exact rfl);(all_goals (exact pre)))));(all_goals exact rfl))|exact side)))
        | ((with_reducible first|apply DrawR.go0|apply KerB.mk);(focus kernel_rfl))
        | (with_reducible first|apply ends_ret|apply ends_norm|apply Halt'.mk)
        | ((with_reducible apply CondD.mk)<;>intro hb<;>(try simp only [SPLT] at hb)<;>(try first|exact noB)))
      all_goals (try exact (false:Bool))
      refine ⟨(i+1,_,2),⟨by dsimp only;omega,hv2,by simp,by simp⟩,by dsimp only;omega,?_⟩
      (conv=>whnf)
      refine ⟨?_,by rfl⟩
      repeat' ((conv=>whnf);first|exact endF|(exact DLe.of_eq (congrArg (fun rs=>D.obj [D.int .i64 k,D.int .i64 0,D.sl 2 3 rs]) (by rw [List.map_append,List.map_cons,List.map_nil,Form.row_mk];rfl)))|exact endF2|with_reducible apply DLes.cons)
     ·repeat' (
       (conv=>whnf)
       first
        | ((with_reducible apply DrawI.at 26 idl35_7);(focus exact rfl);(focus kernel_rfl))
        | with_reducible apply ExE.go
        | ((with_reducible apply EqF.mk);(focus exact rfl))
        | with_reducible apply AndI.mk
        | with_reducible exact trivial
        | ((try ((with_reducible first|apply NumE.go|apply IdxE.go|apply TextE.go|apply LookE.go|apply CallE.go);(conv=>whnf)));(with_reducible apply SideD.mk);(focus (first|(exact idx_row hx rfl)|((try apply givesl);(focus (first|((apply gives_go (ih'));(focus (exact DLes.au));(focus exact rfl);(all_goals (exact pre)))|((first|apply gives_go (isAtom_sem _ _ _ _ _ _)|apply gives_go (indexFuncC_sem _ _ _ _ _));(focus (exact DLes.au));(focus exact rfl);(all_goals (exact pre)))));(all_goals exact rfl))|exact side)))
        | ((with_reducible first|apply DrawR.go0|apply KerB.mk);(focus kernel_rfl))
        | (with_reducible first|apply ends_ret|apply ends_norm|apply Halt'.mk)
        | ((with_reducible apply CondD.mk)<;>intro hb<;>(try simp only [SPLT] at hb)<;>(try first|exact noB)))
      all_goals (try exact (false:Bool))
      refine ⟨(i+1,_,1),⟨by dsimp only;omega,hv2,by simp,by simp⟩,by dsimp only;omega,?_⟩
      (conv=>whnf)
      refine ⟨?_,by rfl⟩
      repeat' ((conv=>whnf);first|exact endF|(exact DLe.of_eq (congrArg (fun rs=>D.obj [D.int .i64 k,D.int .i64 0,D.sl 1 3 rs]) (by rw [List.map_append,List.map_cons,List.map_nil,Form.row_mk])))|exact endF2|with_reducible apply DLes.cons)
     ·repeat' (
       (conv=>whnf)
       first
        | ((with_reducible apply DrawI.at 26 idl35_7);(focus exact rfl);(focus kernel_rfl))
        | with_reducible apply ExE.go
        | ((with_reducible apply EqF.mk);(focus exact rfl))
        | with_reducible apply AndI.mk
        | with_reducible exact trivial
        | ((try ((with_reducible first|apply NumE.go|apply IdxE.go|apply TextE.go|apply LookE.go|apply CallE.go);(conv=>whnf)));(with_reducible apply SideD.mk);(focus (first|(exact idx_row hx rfl)|((try apply givesl);(focus (first|((apply gives_go (ih'));(focus (exact DLes.au));(focus exact rfl);(all_goals (exact pre)))|((first|apply gives_go (isAtom_sem _ _ _ _ _ _)|apply gives_go (indexFuncC_sem _ _ _ _ _));(focus (exact DLes.au));(focus exact rfl);(all_goals (exact pre)))));(all_goals exact rfl))|exact side)))
        | ((with_reducible first|apply DrawR.go0|apply KerB.mk);(focus kernel_rfl))
        | (with_reducible first|apply ends_ret|apply ends_norm|apply Halt'.mk)
        | ((with_reducible apply CondD.mk)<;>intro hb<;>(try simp only [SPLT] at hb)<;>(try first|exact noB)))
      all_goals (try exact (false:Bool))
      refine ⟨(i+1,_,2),⟨by dsimp only;omega,hv2,by simp,by simp⟩,by dsimp only;omega,?_⟩
      (conv=>whnf)
      refine ⟨?_,by rfl⟩
      repeat' ((conv=>whnf);first|exact endF|(exact DLe.of_eq (congrArg (fun rs=>D.obj [D.int .i64 k,D.int .i64 0,D.sl 2 3 rs]) (by rw [List.map_append,List.map_cons,List.map_nil,Form.row_mk])))|exact endF2|with_reducible apply DLes.cons)
     ·omega
end Go.Proofs.YtnlbekongmkmjaaGreatDoor
namespace Go.Proofs.YtnlbekongmkmjaaGreatDoor
set_option linter.unusedSimpArgs false
set_option linter.unusedVariables false
open Go.RowKit
set_option maxRecDepth 100000
set_option maxHeartbeats 4000000
def boR (b:Bool):List D := [.bool b]
def slR (t:List Bool):List D := [.sl 0 1 (t.map boR)]
def tabR (f:Form) (N i:Nat):List (List D):=((List.range i).map fun s:Nat=>boR (f.tv s))++List.replicate (N - i) (boR false)
theorem tabR_len {f:Form} {N i:Nat} (h:i≤N):(tabR f N i).length=N:=by
 unfold tabR
 rw [List.length_append,List.length_map,List.length_range,List.length_replicate]
 omega
theorem tabR_get {f:Form} {N i:Nat} (h:i < N):(tabR f N i)[i]?=some [.bool false]:=by
 unfold tabR
 rw [List.getElem?_append_right (by simp),List.length_map,List.length_range,Nat.sub_self,List.getElem?_replicate,if_pos (by omega)]
 rfl
theorem tabR_set {f:Form} {N i:Nat} (h:i < N):(tabR f N i).set i [.bool (f.tv i)]=tabR f N (i+1):=by
 unfold tabR
 rw [List.set_append_right _ _ (by simp),List.length_map,List.length_range,Nat.sub_self,show N - i=(N - (i+1))+1 by omega,List.replicate_succ,List.set_cons_zero,List.range_succ,List.map_append,List.map_cons,List.map_nil,List.append_assoc]
 rfl
theorem tabR_all {f:Form} {many:Nat}:tabR f (2 ^ many) (2 ^ many)=(tabF f many).map boR:=by
 unfold tabR tabF
 rw [Nat.sub_self,List.replicate_zero,List.append_nil,List.map_map]
 rfl
theorem shl_ok {many N:Nat} (hN:2 ^ many=N) (h:N≤4096):IntKind.i64.wrap (1 * 2 ^ ((many:Int)).toNat)=(N:Int):=by
 have e:(2:Int) ^ many=((2 ^ many:Nat):Int):=by simp
 rw [Int.toNat_natCast,Int.one_mul,e,hN,IntKind.wrap_i64]
 omega
theorem table_sem (f:Form) (hO:f.Ok) (many:Nat) (hm:many≤12):Sem Tryz.prog 19 [.agg f.row,.int .i64 many] (.sl 2 1 ((tabF f many).map boR)):=by
 rw [← tabR_all]
 obtain ⟨N,hN,hN2⟩:∃ N:Nat,2 ^ many=N∧N≤4096:=⟨_,rfl,two_pow_le hm⟩
 have hw:=shl_ok hN hN2
 have hTv:∀ bits:Nat,Sem Tryz.prog 36 [.agg f.row,.int .i64 bits] (.bool (f.tv bits)):=fun bits=>isTrue_sem f hO bits (by omega)
 have hset:∀ i,i < N→(tabR f N i).set i [.bool (f.tv i)]=tabR f N (i+1):=fun i h=>tabR_set h
 have hget:∀ i,i < N→(tabR f N i)[i]?=some [.bool false]:=fun i h=>tabR_get h
 have hz:tabR f N 0=List.replicate N [.bool false]:=by unfold tabR;simp [boR]
 have hlen:∀ i,i≤N→(tabR f N i).length=N:=fun i h=>tabR_len h
 rw [hN]
 generalize tabR f N=tr at hset hget hz hlen ⊢
 generalize (fun bits:Nat=>f.tv bits)=g at hTv hset
 obtain ⟨k,a,fs⟩:=f
 rw [Form.row_mk] at hTv ⊢
 refine sem_intro (M:=fun t=>mem t [3000005,1000021,1000034,1000044]) hT hM Tryz.func19 inferInstance rfl rfl rfl rfl rfl rfl ?_
 repeat' (
  (conv=>whnf)
  first
   | ((try ((with_reducible first|apply NumE.go|apply IdxE.go|apply TextE.go|apply LookE.go|apply CallE.go);(conv=>whnf)));(with_reducible apply SideD.mk);(focus (first|(exact ⟨by omega,by show (many:Int)≤64;omega,hw⟩)|((try apply givesl);(focus (first|((apply gives_go (true1_sem _ _));(focus (exact DLes.au));(focus exact rfl);(all_goals (exact pre)))|((apply gives_go (true2_sem _ _));(focus (exact DLes.au));(focus exact rfl);(all_goals (exact pre)))));(all_goals exact rfl))|exact side)))
   | ((with_reducible first|apply DrawR.go0|apply KerB.mk);(focus kernel_rfl))
   | (with_reducible first|apply ends_ret|apply ends_norm|apply Halt'.mk)
   | ((with_reducible apply CondD.mk)<;>intro hb<;>(try simp only [SPLT] at hb)<;>(try first|exact noB)))
 all_goals (try exact (false:Bool))
 have hzz:List.replicate ((N:Int)).toNat (zeroD [Value.bool false])=tr 0:=by rw [hz,Int.toNat_natCast];rfl
 refine loop_go (M:=fun t=>mem t [3000005,1000021,1000034,1000044]) hT hM (fun i:Nat => [(12,.int .i64 i),(5,.sl 2 1 (tr i)),(11,.int .i64 N)]) (fun i=>i≤N) (fun i=>N - i) (0) ?_ ?_ ?_
 ·(conv=>whnf)
  refine ⟨?_,by rfl⟩
  repeat' ((conv=>whnf);first|exact endF|(exact DLe.of_eq (congrArg (D.sl 2 1) hzz))|(exact dle_int (by rw [List.length_replicate,Int.toNat_natCast]))|exact endF2|with_reducible apply DLes.cons)
 ·exact Nat.zero_le _
 ·rintro i hi
  have hl:=hlen i hi
  by_cases hlt:i < N
  ·have h1:=hget i hlt
   have h2:=hset i hlt
   have h3:=hTv i
   repeat' (
    (conv=>whnf)
    first
     | ((try ((with_reducible first|apply NumE.go|apply IdxE.go|apply TextE.go|apply LookE.go|apply CallE.go);(conv=>whnf)));(with_reducible apply SideD.mk);(focus (first|((try apply givesl);(focus (first|((apply gives_go (h3));(focus (exact DLes.au));(focus exact rfl);(all_goals (exact pre)))|((apply gives_go (true1_sem _ _));(focus (exact DLes.au));(focus exact rfl);(all_goals (exact pre)))|((apply gives_go (true2_sem _ _));(focus (exact DLes.au));(focus exact rfl);(all_goals (exact pre)))));(all_goals exact rfl))|(exact ⟨by omega,h1⟩)|exact side)))
     | ((with_reducible first|apply DrawR.go0|apply KerB.mk);(focus kernel_rfl))
     | (with_reducible first|apply ends_ret|apply ends_norm|apply Halt'.mk)
     | ((with_reducible apply CondD.mk)<;>intro hb<;>(try simp only [SPLT] at hb)<;>(try first|exact noB)))
   all_goals (try exact (false:Bool))
   refine ⟨i+1,by omega,by omega,?_⟩
   (conv=>whnf)
   refine ⟨?_,by rfl⟩
   repeat' ((conv=>whnf);first|exact endF|(exact DLe.of_eq (congrArg (D.sl 2 1) h2))|exact endF2|with_reducible apply DLes.cons)
  ·obtain rfl:i=N:=by omega
   repeat' (
    (conv=>whnf)
    first
     | ((try ((with_reducible first|apply NumE.go|apply IdxE.go|apply TextE.go|apply LookE.go|apply CallE.go);(conv=>whnf)));(with_reducible apply SideD.mk);(focus (first|((try apply givesl);(focus (first|((apply gives_go (true1_sem _ _));(focus (exact DLes.au));(focus exact rfl);(all_goals (exact pre)))|((apply gives_go (true2_sem _ _));(focus (exact DLes.au));(focus exact rfl);(all_goals (exact pre)))));(all_goals exact rfl))|exact side)))
     | ((with_reducible first|apply DrawR.go0|apply KerB.mk);(focus kernel_rfl))
     | (with_reducible first|apply ends_ret|apply ends_norm|apply Halt'.mk)
     | ((with_reducible apply CondD.mk)<;>intro hb<;>(try simp only [SPLT] at hb)<;>(try first|exact noB)))
   all_goals (try exact (false:Bool))
   repeat' ((conv=>whnf);first|exact endR|(with_reducible first|apply And.intro|apply endsO_ret|apply endsO_norm|apply DLes.cons))
   all_goals (conv=>whnf)
def impB (f:List Bool) (bs:List (List Bool)):Bool:=(List.range f.length).all fun i=>f.getD i false || bs.any fun x => !x.getD i false
theorem idx_sl {l:List (List Bool)} {i:Int} {j:Nat} {t:List Bool} (h:l[j]?=some t) (hi':i=j):0≤i∧(l.map slR)[i.toNat]?=some [.sl 0 1 (t.map boR)]:=by
 subst hi'
 exact ⟨by omega,by rw [Int.toNat_natCast,List.getElem?_map,h];rfl⟩
theorem idx_bo {l:List Bool} {i:Int} {j:Nat} {b:Bool} (h:l[j]?=some b) (hi':i=j):0≤i∧(l.map boR)[i.toNat]?=some [.bool b]:=by
 subst hi'
 exact ⟨by omega,by rw [Int.toNat_natCast,List.getElem?_map,h];rfl⟩
theorem indexFuncB_sem (l:List (List Bool)) (f:Nat) (cp:List D) (q:List Bool→Bool) (hq:∀ a ∈ l,Sem Tryz.prog f [.sl 0 1 (a.map boR),.ptr cp] (.bool (q a))):Sem Tryz.prog 77 [.sl 0 1 (l.map slR),.fn f [.ptr cp]] (.int .i64 (idxG q l 0)):=by
 refine sem_len 0 rfl rfl fun hl => ?_
 rw [List.length_map] at hl
 refine sem_intro (M:=fun t=>mem t [1000021,1000034,1000044]) hT hM Tryz.func77 inferInstance rfl rfl rfl rfl rfl rfl ?_
 repeat' (
  (conv=>whnf)
  first
   | ((try ((with_reducible first|apply NumE.go|apply IdxE.go|apply TextE.go|apply LookE.go|apply CallE.go);(conv=>whnf)));(with_reducible apply SideD.mk);(focus (first|exact side)))
   | ((with_reducible first|apply DrawR.go0|apply KerB.mk);(focus kernel_rfl))
   | (with_reducible first|apply ends_ret|apply ends_norm|apply Halt'.mk)
   | ((with_reducible apply CondD.mk)<;>intro hb<;>(try simp only [SPLT] at hb)<;>(try first|exact noB)))
 all_goals (try exact (false:Bool))
 refine loop_go (M:=fun t=>mem t [1000021,1000034,1000044]) hT hM (fun k:Nat => [(8,.int .i64 k)]) (fun k=>k≤l.length∧idxG q (l.drop k) k=idxG q l 0) (fun k=>l.length - k) (0) ?_ ?_ ?_
 ·(conv=>whnf)
  refine ⟨?_,by rfl⟩
  repeat' ((conv=>whnf);first|exact endF|exact endF2|with_reducible apply DLes.cons)
 ·exact ⟨Nat.zero_le _,rfl⟩
 ·rintro k ⟨hk,hi⟩
  have hll:(l.map slR).length=l.length:=List.length_map _
  rcases hx:l[k]? with _|a
  ·have hk':k=l.length:=by have:=List.getElem?_eq_none_iff.1 hx;omega
   subst hk'
   rw [List.drop_length] at hi
   repeat' (
    (conv=>whnf)
    first
     | ((try ((with_reducible first|apply NumE.go|apply IdxE.go|apply TextE.go|apply LookE.go|apply CallE.go);(conv=>whnf)));(with_reducible apply SideD.mk);(focus (first|exact side)))
     | ((with_reducible first|apply DrawR.go0|apply KerB.mk);(focus kernel_rfl))
     | (with_reducible first|apply ends_ret|apply ends_norm|apply Halt'.mk)
     | ((with_reducible apply CondD.mk)<;>intro hb<;>(try simp only [SPLT] at hb)<;>(try first|exact noB)))
   all_goals (try exact (false:Bool))
   repeat' ((conv=>whnf);first|exact endR|(with_reducible first|apply And.intro|apply endsO_ret|apply endsO_norm|apply DLes.cons))
   all_goals (conv=>whnf)
   exact rle_int hi
  ·have hlt:=(List.getElem?_eq_some_iff.1 hx).1
   have hc:=hq a (List.mem_of_getElem? hx)
   rw [idxG_at hx] at hi
   generalize q a=b at hc hi
   repeat' (
    (conv=>whnf)
    first
     | ((try ((with_reducible first|apply NumE.go|apply IdxE.go|apply TextE.go|apply LookE.go|apply CallE.go);(conv=>whnf)));(with_reducible apply SideD.mk);(focus (first|(exact idx_sl hx rfl)|((try apply givesl);(focus (((apply gives_go (hc));(focus (exact DLes.au));(focus exact rfl);(all_goals (exact pre)))));(all_goals exact rfl))|exact side)))
     | ((with_reducible first|apply DrawR.go0|apply KerB.mk);(focus kernel_rfl))
     | (with_reducible first|apply ends_ret|apply ends_norm|apply Halt'.mk)
     | ((with_reducible apply CondD.mk)<;>intro hb<;>(try simp only [SPLT] at hb)<;>(try first|exact noB)))
   all_goals (try exact (false:Bool))
   ·repeat' ((conv=>whnf);first|exact endR|(with_reducible first|apply And.intro|apply endsO_ret|apply endsO_norm|apply DLes.cons))
    all_goals (conv=>whnf)
    exact rle_int (by rw [← hi,if_pos hb])
   ·refine ⟨k+1,⟨by omega,by rw [← hi,if_neg (by simp [hb])]⟩,by omega,?_⟩
    (conv=>whnf)
    refine ⟨?_,by rfl⟩
    repeat' ((conv=>whnf);first|exact endF|exact endF2|with_reducible apply DLes.cons)
theorem containsFuncB_sem (l:List (List Bool)) (f:Nat) (cp:List D) (q:List Bool→Bool) (hq:∀ a ∈ l,Sem Tryz.prog f [.sl 0 1 (a.map boR),.ptr cp] (.bool (q a))):Sem Tryz.prog 37 [.sl 0 1 (l.map slR),.fn f [.ptr cp]] (.bool (l.any q)):=by
 have hI:=indexFuncB_sem l f cp q hq
 refine sem_intro (M:=fun t=>mem t [1000021,1000034,1000044]) hT hM Tryz.func37 inferInstance rfl rfl rfl rfl rfl rfl ?_
 repeat' (
  (conv=>whnf)
  first
   | ((try ((with_reducible first|apply NumE.go|apply IdxE.go|apply TextE.go|apply LookE.go|apply CallE.go);(conv=>whnf)));(with_reducible apply SideD.mk);(focus (first|((try apply givesl);(focus (first|((apply gives_go (hI));(focus (exact DLes.au));(focus exact rfl);(all_goals (exact pre)))|((apply gives_go (indexFuncB_sem _ _ _ _ _));(focus (exact DLes.au));(focus exact rfl);(all_goals (exact pre)))));(all_goals exact rfl))|exact side)))
   | ((with_reducible first|apply DrawR.go0|apply KerB.mk);(focus kernel_rfl))
   | (with_reducible first|apply ends_ret|apply ends_norm|apply Halt'.mk)
   | ((with_reducible apply CondD.mk)<;>intro hb<;>(try simp only [SPLT] at hb)<;>(try first|exact noB)))
 all_goals (try exact (false:Bool))
 repeat' ((conv=>whnf);first|exact endR|(with_reducible first|apply And.intro|apply endsO_ret|apply endsO_norm|apply DLes.cons))
 all_goals (conv=>whnf)
 exact rle_bool (idxG_any q l 0 (by omega))
theorem imp1_sem (x:List Bool) (i:Nat) (h:i < x.length):Sem Tryz.prog 38 [.sl 0 1 (x.map boR),.ptr [.int .i64 i]] (.bool (!x.getD i false)):=by
 have hg:x[i]?=some (x.getD i false):=by rw [List.getD_eq_getElem?_getD,List.getElem?_eq_getElem h];rfl
 generalize x.getD i false=r at hg ⊢
 refine sem_intro (M:=fun t=>mem t [1000021,1000034,1000044]) hT hM Tryz.func38 inferInstance rfl rfl rfl rfl rfl rfl ?_
 repeat' (
  (conv=>whnf)
  first
   | ((try ((with_reducible first|apply NumE.go|apply IdxE.go|apply TextE.go|apply LookE.go|apply CallE.go);(conv=>whnf)));(with_reducible apply SideD.mk);(focus (first|(exact idx_bo hg rfl)|exact side)))
   | ((with_reducible first|apply DrawR.go0|apply KerB.mk);(focus kernel_rfl))
   | (with_reducible first|apply ends_ret|apply ends_norm|apply Halt'.mk)
   | ((with_reducible apply CondD.mk)<;>intro hb<;>(try simp only [SPLT] at hb)<;>(try first|exact noB)))
 all_goals (try exact (false:Bool))
 repeat' ((conv=>whnf);first|exact endR|(with_reducible first|apply And.intro|apply endsO_ret|apply endsO_norm|apply DLes.cons))
 all_goals (conv=>whnf)
theorem implied_sem (f:List Bool) (bs:List (List Bool)) (hl:∀ t ∈ bs,t.length=f.length):Sem Tryz.prog 20 [.sl 0 1 (f.map boR),.sl 0 1 (bs.map slR)] (.bool (impB f bs)):=by
 refine sem_len 0 rfl rfl fun hlen => ?_
 rw [List.length_map] at hlen
 have hll:(f.map boR).length=f.length:=List.length_map _
 obtain ⟨good,hgd⟩:∃ good:Nat→Bool,good=fun i=>f.getD i false || bs.any fun x => !x.getD i false:=⟨_,rfl⟩
 have hi:impB f bs=(List.range f.length).all good:=by rw [hgd];rfl
 rw [hi]
 refine sem_intro (M:=fun t=>mem t [5,2000005,1000021,1000034,1000044]) hT hM Tryz.func20 inferInstance rfl rfl rfl rfl rfl rfl ?_
 repeat' (
  (conv=>whnf)
  first
   | ((try ((with_reducible first|apply NumE.go|apply IdxE.go|apply TextE.go|apply LookE.go|apply CallE.go);(conv=>whnf)));(with_reducible apply SideD.mk);(focus ((first|(intro hc;have hc0:=hc;(try simp only [SPLT] at hc);(try refine And.intro (by first|exact hc0|exact ⟨hc0,hc0⟩|exact ⟨hc0,hc0,hc0⟩) ?_))|skip);first|((try apply givesl);(focus (((apply gives_go (containsFuncB_sem _ _ _ _ _));(focus (exact DLes.au));(focus exact rfl);(all_goals (exact pre)))));(all_goals exact rfl))|exact sideG)))
   | ((with_reducible first|apply DrawR.go0|apply KerB.mk);(focus kernel_rfl))
   | (with_reducible first|apply ends_ret|apply ends_norm|apply Halt'.mk)
   | ((with_reducible apply CondD.mk)<;>intro hb<;>(try simp only [SPLT] at hb)<;>(try first|exact noB)))
 all_goals (try exact (false:Bool))
 refine loop_go (M:=fun t=>mem t [5,2000005,1000021,1000034,1000044]) hT hM (fun i:Nat => [(9,.int .i64 i)]) (fun i=>i≤f.length∧(List.range i).all good=true) (fun i=>f.length - i) (0) ?_ ?_ ?_
 ·(conv=>whnf)
  refine ⟨?_,by rfl⟩
  repeat' ((conv=>whnf);first|exact endF|exact endF2|with_reducible apply DLes.cons)
 ·exact ⟨Nat.zero_le _,rfl⟩
 ·rintro i ⟨hi1,hi2⟩
  cases hx:f[i]? with
  | none=>
   have hm':=List.getElem?_eq_none_iff.1 hx
   obtain rfl:i=f.length:=by omega
   repeat' (
    (conv=>whnf)
    first
     | ((try ((with_reducible first|apply NumE.go|apply IdxE.go|apply TextE.go|apply LookE.go|apply CallE.go);(conv=>whnf)));(with_reducible apply SideD.mk);(focus ((first|(intro hc;have hc0:=hc;(try simp only [SPLT] at hc);(try refine And.intro (by first|exact hc0|exact ⟨hc0,hc0⟩|exact ⟨hc0,hc0,hc0⟩) ?_))|skip);first|((try apply givesl);(focus (((apply gives_go (containsFuncB_sem _ _ _ _ _));(focus (exact DLes.au));(focus exact rfl);(all_goals (exact pre)))));(all_goals exact rfl))|exact sideG)))
     | ((with_reducible first|apply DrawR.go0|apply KerB.mk);(focus kernel_rfl))
     | (with_reducible first|apply ends_ret|apply ends_norm|apply Halt'.mk)
     | ((with_reducible apply CondD.mk)<;>intro hb<;>(try simp only [SPLT] at hb)<;>(try first|exact noB)))
   all_goals (try exact (false:Bool))
   repeat' ((conv=>whnf);first|exact endR|(with_reducible first|apply And.intro|apply endsO_ret|apply endsO_norm|apply DLes.cons))
   all_goals (conv=>whnf)
   exact rle_bool hi2.symm
  | some x=>
   have hlt:=(List.getElem?_eq_some_iff.1 hx).1
   have hct:=containsFuncB_sem bs 38 [.int .i64 i] (fun x => !x.getD i false) fun t ht=>imp1_sem t i (by rw [hl t ht];exact hlt)
   have hg:good i=(x || bs.any fun x => !x.getD i false):=by
    rw [hgd]
    show (f.getD i false || _)=_
    rw [List.getD_eq_getElem?_getD,hx]
    rfl
   generalize (bs.any fun x => !x.getD i false)=q at hct hg
   have hno:good i=false→(List.range f.length).all good=false:=fun h=>by
    rw [List.all_eq_false]
    exact ⟨i,List.mem_range.2 hlt,by simp [h]⟩
   have hyes:good i=true→(List.range (i+1)).all good=true:=fun h=>by
    rw [List.range_succ,List.all_append,hi2]
    simp [h]
   generalize (List.range f.length).all good=r at hno ⊢
   repeat' (
    (conv=>whnf)
    first
     | ((try ((with_reducible first|apply NumE.go|apply IdxE.go|apply TextE.go|apply LookE.go|apply CallE.go);(conv=>whnf)));(with_reducible apply SideD.mk);(focus ((first|(intro hc;have hc0:=hc;(try simp only [SPLT] at hc);(try refine And.intro (by first|exact hc0|exact ⟨hc0,hc0⟩|exact ⟨hc0,hc0,hc0⟩) ?_))|skip);first|(exact idx_bo hx rfl)|((try apply givesl);(focus (first|((apply gives_go (hct));(focus (exact DLes.au));(focus exact rfl);(all_goals (exact pre)))|((apply gives_go (containsFuncB_sem _ _ _ _ _));(focus (exact DLes.au));(focus exact rfl);(all_goals (exact pre)))));(all_goals exact rfl))|exact sideG)))
     | ((with_reducible first|apply DrawR.go0|apply KerB.mk);(focus kernel_rfl))
     | (with_reducible first|apply ends_ret|apply ends_norm|apply Halt'.mk)
     | ((with_reducible apply CondD.mk)<;>intro hb<;>(try simp only [SPLT] at hb)<;>(try first|exact noB)))
   all_goals (try exact (false:Bool))
   ·repeat' ((conv=>whnf);first|exact endR|(with_reducible first|apply And.intro|apply endsO_ret|apply endsO_norm|apply DLes.cons))
    all_goals (conv=>whnf)
    exact rle_bool (hno (by rw [hg];revert hb;cases x<;>cases q<;>simp)).symm
   ·refine ⟨i+1,⟨by omega,hyes (by rw [hg];revert hb;cases x<;>cases q<;>simp)⟩,by omega,?_⟩
    (conv=>whnf)
    refine ⟨?_,by rfl⟩
    repeat' ((conv=>whnf);first|exact endF|exact endF2|with_reducible apply DLes.cons)
end Go.Proofs.YtnlbekongmkmjaaGreatDoor
namespace Go.Proofs.YtnlbekongmkmjaaGreatDoor
set_option linter.unusedSimpArgs false
set_option linter.unusedVariables false
open Go.RowKit
set_option maxRecDepth 100000
set_option maxHeartbeats 4000000
def formsN (l:List Cond):List Form × Int × Int:=
 if 12 < (Cond.atss l []).length then ([],0,2) else (l.map (Cond.form (Cond.atss l [])),((Cond.atss l []).length:Int),0)
theorem formulas_sem (l:List Cond) (hl:l.length≤1000) (hS:∀ c ∈ l,c.Small) (hA:Cond.acnts l≤100000):Sem Tryz.prog 18 [.sl 0 6 (l.map Cond.row)] (.tup [.sl 0 3 ((formsN l).1.map Form.row),.int .i64 (formsN l).2.1,.int .i64 (formsN l).2.2]):=by
 have hll:(l.map Cond.row).length=l.length:=List.length_map _
 unfold formsN
 generalize hAe:Cond.atss l []=A
 refine sem_intro (M:=fun t=>mem t [7,10,1000021,1000034,1000044]) hT hM Tryz.func18 inferInstance rfl rfl rfl rfl rfl rfl ?_
 repeat' (
  (conv=>whnf)
  first
   | ((try ((with_reducible first|apply NumE.go|apply IdxE.go|apply TextE.go|apply LookE.go|apply CallE.go);(conv=>whnf)));(with_reducible apply SideD.mk);(focus (first|((try apply givesl);(focus (((apply gives_go (atomsNil_sem _ _));(focus (exact DLes.au));(focus exact rfl);(all_goals (exact pre)))));(all_goals exact rfl))|exact side)))
   | ((with_reducible apply CallO.go);(conv=>whnf);(with_reducible apply SideD.mk);(focus (first|((apply giveso_go (atomsO_sem _ _ _));(focus (first|exact rfl|(simp;done)));(focus (exact DLes.au));(focus exact rfl);(all_goals (exact pre))))))
   | ((with_reducible first|apply DrawR.go0|apply KerB.mk);(focus kernel_rfl))
   | (with_reducible first|apply ends_ret|apply ends_norm|apply Halt'.mk)
   | ((with_reducible apply CondD.mk)<;>intro hb<;>(try simp only [SPLT] at hb)<;>(try first|exact noB)))
 all_goals (try exact (false:Bool))
 refine loop_go (M:=fun t=>mem t [7,10,1000021,1000034,1000044]) hT hM (fun x:Nat × List Cond => [(13,.int .i64 x.1),(5,.sl 1 6 (x.2.map Cond.row))]) (fun x=>x.1≤l.length∧x.2.length+Cond.acnts (l.drop x.1)≤100000∧Cond.atss (l.drop x.1) x.2=A) (fun x=>l.length - x.1) ((0,[])) ?_ ?_ ?_
 ·(conv=>whnf)
  refine ⟨?_,by rfl⟩
  repeat' ((conv=>whnf);first|exact endF|exact endF2|with_reducible apply DLes.cons)
 ·exact ⟨Nat.zero_le _,by simpa using hA,hAe⟩
 ·rintro ⟨i,acc⟩ ⟨hi,hm,hv⟩
  dsimp only at hi hm hv ⊢
  cases hx:l[i]? with
  | some c=>
   have hlt:=(List.getElem?_eq_some_iff.1 hx).1
   rw [atss_at hx] at hv
   rw [List.drop_eq_getElem_cons hlt,(List.getElem?_eq_some_iff.1 hx).2,acnts_cons] at hm
   have h1:=atomsO_sem c acc (by omega)
   have hl2:=ats_len c acc
   generalize c.ats acc=acc2 at h1 hv hl2
   obtain ⟨k1,ks1,p1,vs1,lo1,hi1⟩:=c
   rw [Cond.row_mk] at h1
   repeat' (
    (conv=>whnf)
    first
     | ((try ((with_reducible first|apply NumE.go|apply IdxE.go|apply TextE.go|apply LookE.go|apply CallE.go);(conv=>whnf)));(with_reducible apply SideD.mk);(focus (first|(exact idx_row hx rfl)|((try apply givesl);(focus (((apply gives_go (atomsNil_sem _ _));(focus (exact DLes.au));(focus exact rfl);(all_goals (exact pre)))));(all_goals exact rfl))|exact side)))
     | ((with_reducible apply CallO.go);(conv=>whnf);(with_reducible apply SideD.mk);(focus (first|((apply giveso_go (h1));(focus (first|exact rfl|(simp;done)));(focus (exact DLes.au));(focus exact rfl);(all_goals (exact pre))))))
     | ((with_reducible first|apply DrawR.go0|apply KerB.mk);(focus kernel_rfl))
     | (with_reducible first|apply ends_ret|apply ends_norm|apply Halt'.mk)
     | ((with_reducible apply CondD.mk)<;>intro hb<;>(try simp only [SPLT] at hb)<;>(try first|exact noB)))
   all_goals (try exact (false:Bool))
   refine ⟨(i+1,acc2),⟨by dsimp only;omega,by dsimp only;omega,hv⟩,by dsimp only;omega,?_⟩
   (conv=>whnf)
   refine ⟨?_,by rfl⟩
   repeat' ((conv=>whnf);first|exact endF|exact endF2|with_reducible apply DLes.cons)
  | none=>
   have hm':=List.getElem?_eq_none_iff.1 hx
   rw [List.drop_of_length_le hm',atss_nil] at hv
   subst hv
   have hal:(acc.map Cond.row).length=acc.length:=List.length_map _
   clear hx
   by_cases h12:12 < acc.length
   ·rw [if_pos h12]
    repeat' (
     (conv=>whnf)
     first
      | ((try ((with_reducible first|apply NumE.go|apply IdxE.go|apply TextE.go|apply LookE.go|apply CallE.go);(conv=>whnf)));(with_reducible apply SideD.mk);(focus (first|((try apply givesl);(focus (((apply gives_go (atomsNil_sem _ _));(focus (exact DLes.au));(focus exact rfl);(all_goals (exact pre)))));(all_goals exact rfl))|exact side)))
      | ((with_reducible apply CallO.go);(conv=>whnf);(with_reducible apply SideD.mk);(focus (first|((apply giveso_go (atomsO_sem _ _ _));(focus (first|exact rfl|(simp;done)));(focus (exact DLes.au));(focus exact rfl);(all_goals (exact pre))))))
      | ((with_reducible first|apply DrawR.go0|apply KerB.mk);(focus kernel_rfl))
      | (with_reducible first|apply ends_ret|apply ends_norm|apply Halt'.mk)
      | ((with_reducible apply CondD.mk)<;>intro hb<;>(try simp only [SPLT] at hb)<;>(try first|exact noB)))
    all_goals (try exact (false:Bool))
    repeat' ((conv=>whnf);first|exact endR|(with_reducible first|apply And.intro|apply endsO_ret|apply endsO_norm|apply DLes.cons))
    all_goals (conv=>whnf)
   ·rw [if_neg h12]
    dsimp only
    repeat' (
     (conv=>whnf)
     first
      | ((try ((with_reducible first|apply NumE.go|apply IdxE.go|apply TextE.go|apply LookE.go|apply CallE.go);(conv=>whnf)));(with_reducible apply SideD.mk);(focus (first|((try apply givesl);(focus (((apply gives_go (atomsNil_sem _ _));(focus (exact DLes.au));(focus exact rfl);(all_goals (exact pre)))));(all_goals exact rfl))|exact side)))
      | ((with_reducible apply CallO.go);(conv=>whnf);(with_reducible apply SideD.mk);(focus (first|((apply giveso_go (atomsO_sem _ _ _));(focus (first|exact rfl|(simp;done)));(focus (exact DLes.au));(focus exact rfl);(all_goals (exact pre))))))
      | ((with_reducible first|apply DrawR.go0|apply KerB.mk);(focus kernel_rfl))
      | (with_reducible first|apply ends_ret|apply ends_norm|apply Halt'.mk)
      | ((with_reducible apply CondD.mk)<;>intro hb<;>(try simp only [SPLT] at hb)<;>(try first|exact noB)))
    all_goals (try exact (false:Bool))
    refine ht_frzI [5] ?_
    conv=>whnf
    refine loop_go (M:=fun t=>mem t [7,10,1000021,1000034,1000044]) hT hM (fun x:Nat × List Form => [(26,.int .i64 x.1),(8,.sl 1 3 (x.2.map Form.row))]) (fun x=>x.1≤l.length∧x.2=(l.take x.1).map (Cond.form acc)) (fun x=>l.length - x.1) ((0,[])) ?_ ?_ ?_
    ·(conv=>whnf)
     refine ⟨?_,by rfl⟩
     repeat' ((conv=>whnf);first|exact endF|exact endF2|with_reducible apply DLes.cons)
    ·exact ⟨Nat.zero_le _,rfl⟩
    ·rintro ⟨j,fs⟩ ⟨hj,hv2⟩
     dsimp only at hj hv2 ⊢
     have hfl:(fs.map Form.row).length=fs.length:=List.length_map _
     have hf2:fs.length≤1000:=by rw [hv2,List.length_map,List.length_take];omega
     cases hy:l[j]? with
     | none=>
      have hm2:=List.getElem?_eq_none_iff.1 hy
      rw [List.take_of_length_le hm2] at hv2
      subst hv2
      repeat' (
       (conv=>whnf)
       first
        | ((try ((with_reducible first|apply NumE.go|apply IdxE.go|apply TextE.go|apply LookE.go|apply CallE.go);(conv=>whnf)));(with_reducible apply SideD.mk);(focus (first|((try apply givesl);(focus (((apply gives_go (atomsNil_sem _ _));(focus (exact DLes.au));(focus exact rfl);(all_goals (exact pre)))));(all_goals exact rfl))|exact side)))
        | ((with_reducible apply CallO.go);(conv=>whnf);(with_reducible apply SideD.mk);(focus (first|((apply giveso_go (atomsO_sem _ _ _));(focus (first|exact rfl|(simp;done)));(focus (exact DLes.au));(focus exact rfl);(all_goals (exact pre))))))
        | ((with_reducible first|apply DrawR.go0|apply KerB.mk);(focus kernel_rfl))
        | (with_reducible first|apply ends_ret|apply ends_norm|apply Halt'.mk)
        | ((with_reducible apply CondD.mk)<;>intro hb<;>(try simp only [SPLT] at hb)<;>(try first|exact noB)))
      all_goals (try exact (false:Bool))
      repeat' ((conv=>whnf);first|exact endR|(with_reducible first|apply And.intro|apply endsO_ret|apply endsO_norm|apply DLes.cons))
      all_goals (conv=>whnf)
      exact rle_int (by rw [hal])
     | some c=>
      have hlt:=(List.getElem?_eq_some_iff.1 hy).1
      have h1:=formulaOf_sem acc c (hS c (List.mem_of_getElem? hy))
      have hv3:fs ++ [c.form acc]=(l.take (j+1)).map (Cond.form acc):=by rw [take_at hy,List.map_append,List.map_cons,List.map_nil,hv2]
      generalize c.form acc=y at h1 hv3
      obtain ⟨k1,ks1,p1,vs1,lo1,hi1⟩:=c
      obtain ⟨k3,a3,fs3⟩:=y
      rw [Cond.row_mk,Form.row_mk] at h1
      repeat' (
       (conv=>whnf)
       first
        | ((try ((with_reducible first|apply NumE.go|apply IdxE.go|apply TextE.go|apply LookE.go|apply CallE.go);(conv=>whnf)));(with_reducible apply SideD.mk);(focus (first|(exact idx_row hy rfl)|((try apply givesl);(focus (first|((apply gives_go (h1));(focus (exact DLes.au));(focus exact rfl);(all_goals (exact pre)))|((apply gives_go (atomsNil_sem _ _));(focus (exact DLes.au));(focus exact rfl);(all_goals (exact pre)))));(all_goals exact rfl))|exact side)))
        | ((with_reducible apply CallO.go);(conv=>whnf);(with_reducible apply SideD.mk);(focus (first|((apply giveso_go (atomsO_sem _ _ _));(focus (first|exact rfl|(simp;done)));(focus (exact DLes.au));(focus exact rfl);(all_goals (exact pre))))))
        | ((with_reducible first|apply DrawR.go0|apply KerB.mk);(focus kernel_rfl))
        | (with_reducible first|apply ends_ret|apply ends_norm|apply Halt'.mk)
        | ((with_reducible apply CondD.mk)<;>intro hb<;>(try simp only [SPLT] at hb)<;>(try first|exact noB)))
      all_goals (try exact (false:Bool))
      refine ⟨(j+1,_),⟨by dsimp only;omega,hv3⟩,by dsimp only;omega,?_⟩
      (conv=>whnf)
      refine ⟨?_,by rfl⟩
      repeat' ((conv=>whnf);first|exact endF|(exact DLe.of_eq (congrArg (D.sl 1 3) (by rw [List.map_append,List.map_cons,List.map_nil,Form.row_mk])))|exact endF2|with_reducible apply DLes.cons)
/-- What a condition needs to be evaluated. -/
inductive Cond.Ev (L:List Cond):Cond→Prop where
 | mk {k:Int} {ks:List Cond} {p:Str} {vs:List Str} {lo hi:Int} (h1:isAtomB k=true→hasC L (.mk k ks p vs lo hi)=true) (h3:k=3→ks ≠ []) (h2:isAtomB k=false→∀ x ∈ ks,x.Ev L):(Cond.mk k ks p vs lo hi).Ev L
theorem nice_ev {n:Nat} {L:List Cond} (c:Cond):c.Nice n→c.In L→c.Ev L:=by
 induction c using Cond.ind with
 | h k ks p vs lo hi ih=>
  rintro ⟨_,_,_,_,hk,h4⟩ ⟨h1,h2⟩
  exact .mk h1 (fun h=>hk (by omega)) fun h x hx=>ih x hx (h4 x hx) (h2 h x hx)
theorem rem2 {a bits:Int} (h0:0≤bits):(bits / 2 ^ a.toNat).tmod 2=bits / 2 ^ a.toNat % 2:=by
 have h2:(0:Int)≤bits / 2 ^ a.toNat:=Int.ediv_nonneg h0 (Int.le_of_lt (Int.pow_pos (by decide)))
 exact Int.tmod_eq_emod_of_nonneg h2
theorem isTrue4_sem (L:List Cond) (hL:L.length≤62) (c:Cond):c.Ev L→∀ bits:Int,0≤bits→Sem Tryz.prog 41 [.agg c.row,.sl 0 6 (L.map Cond.row),.int .i64 bits] (.bool (c.tv L bits)):=by
 induction c using Cond.ind with
 | h k ks p vs lo hi ih=>
  intro hE bits h0
  obtain ⟨e1,e3,e2⟩:=hE
  rw [Cond.row_mk]
  refine sem_lenA 0 1 rfl rfl rfl fun hks => ?_
  rw [List.length_map] at hks
  have hll:(ks.map Cond.row).length=ks.length:=List.length_map _
  have hn:=number_sem L (.mk k ks p vs lo hi)
  have hnl:=fun h=>num_lt (e1 h)
  have hr:=ctv_mk L bits k ks p vs lo hi
  generalize numC L (.mk k ks p vs lo hi)=nn at hn hnl hr
  generalize (Cond.mk k ks p vs lo hi).tv L bits=r at hr ⊢
  rw [Cond.row_mk] at hn
  by_cases g3:k=3
  ·subst g3
   rw [if_neg (by decide),if_neg (by decide),if_pos rfl] at hr
   obtain ⟨y,hy⟩:∃ y,ks[0]?=some y:=by
    have h:=e3 rfl
    cases ks with
    | nil=>exact absurd rfl h
    | cons a t=>exact ⟨_,rfl⟩
   have ih':=ih y (List.mem_of_getElem? hy) (e2 rfl y (List.mem_of_getElem? hy)) bits h0
   rw [ctvH_at hy] at hr
   generalize y.tv L bits=q at ih' hr
   obtain ⟨k1,ks1,p1,vs1,lo1,hi1⟩:=y
   rw [Cond.row_mk] at ih'
   refine sem_intro (M:=fun t=>mem t [1000021,1000034,1000044]) hT hM Tryz.func41 inferInstance rfl rfl rfl rfl rfl rfl ?_
   repeat' (
    (conv=>whnf)
    first
     | ((try ((with_reducible first|apply NumE.go|apply IdxE.go|apply TextE.go|apply LookE.go|apply CallE.go);(conv=>whnf)));(with_reducible apply SideD.mk);(focus (first|(exact idx_row hy rfl)|((try apply givesl);(focus (first|((apply gives_go (ih'));(focus (exact DLes.au));(focus exact rfl);(all_goals (exact pre)))|((apply gives_go (number_sem _ _));(focus (exact DLes.au));(focus exact rfl);(all_goals (exact pre)))));(all_goals exact rfl))|exact side)))
     | ((with_reducible first|apply DrawR.go0|apply KerB.mk);(focus kernel_rfl))
     | (with_reducible first|apply ends_ret|apply ends_norm|apply Halt'.mk)
     | ((with_reducible apply CondD.mk)<;>intro hb<;>(try simp only [SPLT] at hb)<;>(try first|exact noB)))
   all_goals (try exact (false:Bool))
   repeat' ((conv=>whnf);first|exact endR|(with_reducible first|apply And.intro|apply endsO_ret|apply endsO_norm|apply DLes.cons))
   all_goals (conv=>whnf)
   exact rle_bool hr.symm
  ·by_cases g1:k=1
   ·subst g1
    rw [if_pos rfl] at hr
    refine sem_intro (M:=fun t=>mem t [1000021,1000034,1000044]) hT hM Tryz.func41 inferInstance rfl rfl rfl rfl rfl rfl ?_
    repeat' (
     (conv=>whnf)
     first
      | ((try ((with_reducible first|apply NumE.go|apply IdxE.go|apply TextE.go|apply LookE.go|apply CallE.go);(conv=>whnf)));(with_reducible apply SideD.mk);(focus (first|((try apply givesl);(focus (((apply gives_go (number_sem _ _));(focus (exact DLes.au));(focus exact rfl);(all_goals (exact pre)))));(all_goals exact rfl))|exact side)))
      | ((with_reducible first|apply DrawR.go0|apply KerB.mk);(focus kernel_rfl))
      | (with_reducible first|apply ends_ret|apply ends_norm|apply Halt'.mk)
      | ((with_reducible apply CondD.mk)<;>intro hb<;>(try simp only [SPLT] at hb)<;>(try first|exact noB)))
    all_goals (try exact (false:Bool))
    refine loop_go (M:=fun t=>mem t [1000021,1000034,1000044]) hT hM (fun i:Nat => [(7,.int .i64 i)]) (fun i=>i≤ks.length∧Cond.tvA L bits (ks.drop i)=r) (fun i=>ks.length - i) (0) ?_ ?_ ?_
    ·(conv=>whnf)
     refine ⟨?_,by rfl⟩
     repeat' ((conv=>whnf);first|exact endF|exact endF2|with_reducible apply DLes.cons)
    ·exact ⟨Nat.zero_le _,hr.symm⟩
    ·rintro i ⟨hi',hv⟩
     cases hx:ks[i]? with
     | none=>
      have hm':=List.getElem?_eq_none_iff.1 hx
      rw [List.drop_of_length_le hm',ctvA_nil] at hv
      repeat' (
       (conv=>whnf)
       first
        | ((try ((with_reducible first|apply NumE.go|apply IdxE.go|apply TextE.go|apply LookE.go|apply CallE.go);(conv=>whnf)));(with_reducible apply SideD.mk);(focus (first|((try apply givesl);(focus (((apply gives_go (number_sem _ _));(focus (exact DLes.au));(focus exact rfl);(all_goals (exact pre)))));(all_goals exact rfl))|exact side)))
        | ((with_reducible first|apply DrawR.go0|apply KerB.mk);(focus kernel_rfl))
        | (with_reducible first|apply ends_ret|apply ends_norm|apply Halt'.mk)
        | ((with_reducible apply CondD.mk)<;>intro hb<;>(try simp only [SPLT] at hb)<;>(try first|exact noB)))
      all_goals (try exact (false:Bool))
      repeat' ((conv=>whnf);first|exact endR|(with_reducible first|apply And.intro|apply endsO_ret|apply endsO_norm|apply DLes.cons))
      all_goals (conv=>whnf)
      exact rle_bool hv
     | some x=>
      have hlt:=(List.getElem?_eq_some_iff.1 hx).1
      have hxm:=List.mem_of_getElem? hx
      have ih':=ih x hxm (e2 rfl x hxm) bits h0
      rw [ctvA_at hx] at hv
      generalize x.tv L bits=q at ih' hv
      obtain ⟨k1,ks1,p1,vs1,lo1,hi1⟩:=x
      rw [Cond.row_mk] at ih'
      repeat' (
       (conv=>whnf)
       first
        | ((try ((with_reducible first|apply NumE.go|apply IdxE.go|apply TextE.go|apply LookE.go|apply CallE.go);(conv=>whnf)));(with_reducible apply SideD.mk);(focus (first|(exact idx_row hx rfl)|((try apply givesl);(focus (first|((apply gives_go (ih'));(focus (exact DLes.au));(focus exact rfl);(all_goals (exact pre)))|((apply gives_go (number_sem _ _));(focus (exact DLes.au));(focus exact rfl);(all_goals (exact pre)))));(all_goals exact rfl))|exact side)))
        | ((with_reducible first|apply DrawR.go0|apply KerB.mk);(focus kernel_rfl))
        | (with_reducible first|apply ends_ret|apply ends_norm|apply Halt'.mk)
        | ((with_reducible apply CondD.mk)<;>intro hb<;>(try simp only [SPLT] at hb)<;>(try first|exact noB)))
      all_goals (try exact (false:Bool))
      ·repeat' ((conv=>whnf);first|exact endR|(with_reducible first|apply And.intro|apply endsO_ret|apply endsO_norm|apply DLes.cons))
       all_goals (conv=>whnf)
       exact rle_bool (by rw [← hv];simp_all)
      ·refine ⟨i+1,⟨by omega,by rw [← hv];simp_all⟩,by omega,?_⟩
       (conv=>whnf)
       refine ⟨?_,by rfl⟩
       repeat' ((conv=>whnf);first|exact endF|exact endF2|with_reducible apply DLes.cons)
   ·rw [if_neg g1] at hr
    by_cases g2:k=2
    ·subst g2
     rw [if_pos rfl] at hr
     refine sem_intro (M:=fun t=>mem t [1000021,1000034,1000044]) hT hM Tryz.func41 inferInstance rfl rfl rfl rfl rfl rfl ?_
     repeat' (
      (conv=>whnf)
      first
       | ((try ((with_reducible first|apply NumE.go|apply IdxE.go|apply TextE.go|apply LookE.go|apply CallE.go);(conv=>whnf)));(with_reducible apply SideD.mk);(focus (first|((try apply givesl);(focus (((apply gives_go (number_sem _ _));(focus (exact DLes.au));(focus exact rfl);(all_goals (exact pre)))));(all_goals exact rfl))|exact side)))
       | ((with_reducible first|apply DrawR.go0|apply KerB.mk);(focus kernel_rfl))
       | (with_reducible first|apply ends_ret|apply ends_norm|apply Halt'.mk)
       | ((with_reducible apply CondD.mk)<;>intro hb<;>(try simp only [SPLT] at hb)<;>(try first|exact noB)))
     all_goals (try exact (false:Bool))
     refine loop_go (M:=fun t=>mem t [1000021,1000034,1000044]) hT hM (fun i:Nat => [(8,.int .i64 i)]) (fun i=>i≤ks.length∧Cond.tvO L bits (ks.drop i)=r) (fun i=>ks.length - i) (0) ?_ ?_ ?_
     ·(conv=>whnf)
      refine ⟨?_,by rfl⟩
      repeat' ((conv=>whnf);first|exact endF|exact endF2|with_reducible apply DLes.cons)
     ·exact ⟨Nat.zero_le _,hr.symm⟩
     ·rintro i ⟨hi',hv⟩
      cases hx:ks[i]? with
      | none=>
       have hm':=List.getElem?_eq_none_iff.1 hx
       rw [List.drop_of_length_le hm',ctvO_nil] at hv
       repeat' (
        (conv=>whnf)
        first
         | ((try ((with_reducible first|apply NumE.go|apply IdxE.go|apply TextE.go|apply LookE.go|apply CallE.go);(conv=>whnf)));(with_reducible apply SideD.mk);(focus (first|((try apply givesl);(focus (((apply gives_go (number_sem _ _));(focus (exact DLes.au));(focus exact rfl);(all_goals (exact pre)))));(all_goals exact rfl))|exact side)))
         | ((with_reducible first|apply DrawR.go0|apply KerB.mk);(focus kernel_rfl))
         | (with_reducible first|apply ends_ret|apply ends_norm|apply Halt'.mk)
         | ((with_reducible apply CondD.mk)<;>intro hb<;>(try simp only [SPLT] at hb)<;>(try first|exact noB)))
       all_goals (try exact (false:Bool))
       repeat' ((conv=>whnf);first|exact endR|(with_reducible first|apply And.intro|apply endsO_ret|apply endsO_norm|apply DLes.cons))
       all_goals (conv=>whnf)
       exact rle_bool hv
      | some x=>
       have hlt:=(List.getElem?_eq_some_iff.1 hx).1
       have hxm:=List.mem_of_getElem? hx
       have ih':=ih x hxm (e2 rfl x hxm) bits h0
       rw [ctvO_at hx] at hv
       generalize x.tv L bits=q at ih' hv
       obtain ⟨k1,ks1,p1,vs1,lo1,hi1⟩:=x
       rw [Cond.row_mk] at ih'
       repeat' (
        (conv=>whnf)
        first
         | ((try ((with_reducible first|apply NumE.go|apply IdxE.go|apply TextE.go|apply LookE.go|apply CallE.go);(conv=>whnf)));(with_reducible apply SideD.mk);(focus (first|(exact idx_row hx rfl)|((try apply givesl);(focus (first|((apply gives_go (ih'));(focus (exact DLes.au));(focus exact rfl);(all_goals (exact pre)))|((apply gives_go (number_sem _ _));(focus (exact DLes.au));(focus exact rfl);(all_goals (exact pre)))));(all_goals exact rfl))|exact side)))
         | ((with_reducible first|apply DrawR.go0|apply KerB.mk);(focus kernel_rfl))
         | (with_reducible first|apply ends_ret|apply ends_norm|apply Halt'.mk)
         | ((with_reducible apply CondD.mk)<;>intro hb<;>(try simp only [SPLT] at hb)<;>(try first|exact noB)))
       all_goals (try exact (false:Bool))
       ·repeat' ((conv=>whnf);first|exact endR|(with_reducible first|apply And.intro|apply endsO_ret|apply endsO_norm|apply DLes.cons))
        all_goals (conv=>whnf)
        exact rle_bool (by rw [← hv];simp_all)
       ·refine ⟨i+1,⟨by omega,by rw [← hv];simp_all⟩,by omega,?_⟩
        (conv=>whnf)
        refine ⟨?_,by rfl⟩
        repeat' ((conv=>whnf);first|exact endF|exact endF2|with_reducible apply DLes.cons)
    ·rw [if_neg g2,if_neg g3] at hr
     obtain ⟨n1,n2⟩:=hnl (atomK.2 ⟨g1,g2,g3⟩)
     have hrm:=rem2 (a:=nn) h0
     refine sem_intro (M:=fun t=>mem t [1000021,1000034,1000044]) hT hM Tryz.func41 inferInstance rfl rfl rfl rfl rfl rfl ?_
     repeat' (
      (conv=>whnf)
      first
       | ((try ((with_reducible first|apply NumE.go|apply IdxE.go|apply TextE.go|apply LookE.go|apply CallE.go);(conv=>whnf)));(with_reducible apply SideD.mk);(focus (first|(exact ⟨n1,by show nn≤64;omega,rfl⟩)|(exact ⟨by decide,hrm⟩)|((try apply givesl);(focus (first|((apply gives_go (hn));(focus (exact DLes.au));(focus exact rfl);(all_goals (exact pre)))|((apply gives_go (number_sem _ _));(focus (exact DLes.au));(focus exact rfl);(all_goals (exact pre)))));(all_goals exact rfl))|exact side)))
       | ((with_reducible first|apply DrawR.go0|apply KerB.mk);(focus kernel_rfl))
       | (with_reducible first|apply ends_ret|apply ends_norm|apply Halt'.mk)
       | ((with_reducible apply CondD.mk)<;>intro hb<;>(try simp only [SPLT] at hb)<;>(try first|exact noB)))
     all_goals (try exact (false:Bool))
     repeat' ((conv=>whnf);first|exact endR|(with_reducible first|apply And.intro|apply endsO_ret|apply endsO_norm|apply DLes.cons))
     all_goals (conv=>whnf)
     exact rle_bool hr.symm
end Go.Proofs.YtnlbekongmkmjaaGreatDoor
