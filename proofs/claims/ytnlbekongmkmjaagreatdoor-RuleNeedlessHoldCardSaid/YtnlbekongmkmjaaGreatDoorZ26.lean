/- Conditions are right: the reference's check of all parts (walks). Atoms, Can, follows: the reference's (walks), and what tables say (plain). Rules: what is wrong with them, and which are needless (plain). Rules without error: the program's and the reference's (walks). Rules that are not needless say all that all rules say (plain). Needless: the program's (walk). -/
import Derived.Test.YtnlbekongmkmjaaGreatDoorZ25
import Derived.Test.YtnlbekongmkmjaaGreatDoorZ23
namespace Go.Proofs.YtnlbekongmkmjaaGreatDoor
set_option linter.unusedSimpArgs false
set_option linter.unusedVariables false
open Go.RowKit
set_option maxRecDepth 100000
set_option maxHeartbeats 4000000
end Go.Proofs.YtnlbekongmkmjaaGreatDoor
namespace Go.Proofs.YtnlbekongmkmjaaGreatDoor
set_option linter.unusedSimpArgs false
set_option linter.unusedVariables false
open Go.RowKit
set_option maxRecDepth 100000
set_option maxHeartbeats 4000000
theorem all_congr {α:Type} {p q:α→Bool}:∀ l:List α,(∀ x ∈ l,p x=q x)→l.all p=l.all q
 | [],_=>rfl
 | a::l,h=>by rw [List.all_cons,List.all_cons,h a (by simp),all_congr l fun x hx=>h x (by simp [hx])]
theorem any_notq {α:Type} {p q:α→Bool}:∀ l:List α,(∀ x ∈ l,p x = !q x)→l.any p = !l.all q
 | [],_=>rfl
 | a::l,h=>by rw [List.any_cons,List.all_cons,h a (by simp),any_notq l fun x hx=>h x (by simp [hx])];cases q a<;>simp
theorem tabF_len (f:Form) (m:Nat):(tabF f m).length=2 ^ m:=by unfold tabF;rw [List.length_map,List.length_range]
theorem tabF_get {f:Form} {m s:Nat} (h:s < 2 ^ m):(tabF f m).getD s false=f.tv s:=by
 unfold tabF
 rw [List.getD_eq_getElem?_getD,List.getElem?_map,List.getElem?_range h]
 rfl
theorem imp_foll (cs:List Cond) (b:Cond) (L:List Cond):impB (tabF (b.form L) L.length) (cs.map fun a=>tabF (a.form L) L.length)=follB cs b L:=by
 unfold impB follB
 rw [tabF_len]
 refine all_congr _ fun s hs => ?_
 have hs:=List.mem_range.1 hs
 rw [tabF_get hs,form_tv,List.any_map,any_notq (q:=fun c:Cond=>c.tv L s) cs (fun x _=>by show (!(tabF (x.form L) L.length).getD s false)=_;rw [tabF_get hs,form_tv]),Bool.or_comm]
theorem acnts_sizes:∀ l:List Cond,(∀ x ∈ l,x.acnt≤x.size)→Cond.acnts l≤Cond.sizes l
 | [],_=>by rw [acnts_nil];exact Nat.zero_le _
 | x::l,h=>by
  have h1:=h x (by simp)
  have h2:=acnts_sizes l fun y hy=>h y (by simp [hy])
  rw [acnts_cons,sizes_cons]
  omega
theorem acnt_size (c:Cond):c.acnt≤c.size:=by
 induction c using Cond.ind with
 | h k ks p vs lo hi ih=>
  rw [acnt_mk,size_mk]
  split
  ·omega
  ·have:=acnts_sizes ks ih
   omega
/-- A condition without error. -/
structure Cond.Good (c:Cond):Prop where
 nice:c.Nice 200
 few:c.acnt≤200
theorem err_good {c:Cond} (ht:c.Txt) (h:c.err=0):c.Good:=by
 have h1:=chk_ok c 0 0 (by omega) (by omega) ht h
 have h2:=(chk_bd c 0 0 (by omega)).2 h
 have h3:=acnt_size c
 exact ⟨h1.2,by omega⟩
end Go.Proofs.YtnlbekongmkmjaaGreatDoor
namespace Go.Proofs.YtnlbekongmkmjaaGreatDoor
set_option linter.unusedSimpArgs false
set_option linter.unusedVariables false
open Go.RowKit
set_option maxRecDepth 100000
structure Rul where
 n:Str
 c:Cond
def Rul.row (r:Rul):List D:=.str r.n::r.c.row
structure Rul.Ok (r:Rul):Prop where
 n:r.n.length≤9223372036854775807
 c:r.c.Txt
theorem idx_rul {l:List Rul} {i:Int} {j:Nat} {n:Str} {k:Int} {ks:List Cond} {p:Str} {vs:List Str} {lo hi:Int} (h:l[j]?=some ⟨n,.mk k ks p vs lo hi⟩) (hi':i=j):0≤i∧(l.map Rul.row)[i.toNat]?=some [.str n,.int .i64 k,.sl 0 6 (ks.map Cond.row),.str p,.sl 0 1 (vs.map fun s => [.str s]),.int .i64 lo,.int .i64 hi]:=by
 subst hi'
 refine ⟨by omega,?_⟩
 rw [Int.toNat_natCast,List.getElem?_map,h,Option.map_some,Rul.row,Cond.row_mk]
theorem blt_nil (a:List UInt8):Op.bytesLess a []=false:=by cases a<;>rfl
theorem blt_cons (x y:UInt8) (a b:List UInt8):Op.bytesLess (x::a) (y::b)=true↔x.toNat < y.toNat∨(x=y∧Op.bytesLess a b=true):=by
 simp only [Op.bytesLess,Bool.or_eq_true,decide_eq_true_eq,Bool.and_eq_true,beq_iff_eq]
 exact Iff.rfl
theorem blt_trans:∀ {a b c:List UInt8},Op.bytesLess a b=true→Op.bytesLess b c=true→Op.bytesLess a c=true
 | _,b,[],_,h=>by rw [blt_nil] at h;cases h
 | _,[],_::_,h,_=>by rw [blt_nil] at h;cases h
 | [],_::_,_::_,_,_=>rfl
 | x::a,y::b,z::c,h,k=>by
  rw [blt_cons] at *
  rcases h with h|⟨rfl,h⟩
  ·rcases k with k|⟨rfl,k⟩
   ·left;omega
   ·left;exact h
  ·rcases k with k|⟨rfl,k⟩
   ·left;exact k
   ·exact .inr ⟨rfl,blt_trans h k⟩
theorem blt_irrefl:∀ a:List UInt8,Op.bytesLess a a=false
 | []=>rfl
 | x::a=>by
  rw [Bool.eq_false_iff]
  intro h
  rw [blt_cons] at h
  rcases h with h|⟨_,h⟩
  ·omega
  ·rw [blt_irrefl a] at h;cases h
theorem blt_total:∀ a b:List UInt8,Op.bytesLess a b=true∨a=b∨Op.bytesLess b a=true
 | [],[]=>.inr (.inl rfl)
 | [],_::_=>.inl rfl
 | _::_,[]=>.inr (.inr rfl)
 | x::a,y::b=>by
  rw [blt_cons,blt_cons]
  rcases Nat.lt_trichotomy x.toNat y.toNat with h|h|h
  ·exact .inl (.inl h)
  ·have hxy:x=y:=UInt8.toNat_inj.1 h
   subst hxy
   rcases blt_total a b with h|rfl|h
   ·exact .inl (.inr ⟨rfl,h⟩)
   ·exact .inr (.inl rfl)
   ·exact .inr (.inr (.inr ⟨rfl,h⟩))
  ·exact .inr (.inr (.inl h))
theorem notAft_lt {q n:Str} (h:notAfter (some q) n=false):Op.bytesLess q n=true:=by
 simp only [notAfter,Bool.or_eq_false_iff] at h
 rcases blt_total q n with g|rfl|g
 ·exact g
 ·simp at h
 ·rw [h.1] at g;cases g
/-- What is wrong with rules behind a name. -/
def rulesE:Option Str→List Rul→Int
 | _,[]=>0
 | p,r::l=>if isNameB r.n=false then 5 else if notAfter p r.n=true then 8 else if r.c.err ≠ 0 then r.c.err else rulesE (some r.n) l
def rulesN (l:List Rul):Int:=if 200 < l.length then 2 else rulesE none l
def prevR (l:List Rul):Nat→Option Str
 | 0=>none
 | j+1=>l[j]?.map Rul.n
theorem rulesE_at {l:List Rul} {k:Nat} {r:Rul} {p:Option Str} (h:l[k]?=some r):rulesE p (l.drop k)=if isNameB r.n=false then 5 else if notAfter p r.n=true then 8 else if r.c.err ≠ 0 then r.c.err else rulesE (some r.n) (l.drop (k+1)):=by
 rw [List.drop_eq_getElem_cons (List.getElem?_eq_some_iff.1 h).1,(List.getElem?_eq_some_iff.1 h).2]
 rfl
theorem prevR_bad {l:List Rul} {k:Nat} {q:Rul} {n:Str} (hq:0 < k→l[k - 1]?=some q):notAfter (prevR l k) n=(decide (0 < (k:Int)) && (Op.bytesLess n q.n || n == q.n)):=by
 cases k with
 | zero=>rfl
 | succ j=>
  have:=hq (by omega)
  simp only [Nat.add_sub_cancel] at this
  simp only [prevR,this,Option.map_some,notAfter]
  rw [decide_eq_true (by omega),Bool.true_and]
theorem nofR {k:Nat} {a b:Bool} (h:(k:Int)≤0∨a=false∧¬ b=true):¬ (decide (0 < (k:Int)) && (a || b))=true:=by
 simp only [Bool.and_eq_true,Bool.or_eq_true,decide_eq_true_eq]
 rintro ⟨h1,h2⟩
 rcases h with h|⟨h3,h4⟩
 ·omega
 ·rcases h2 with h2|h2
  ·rw [h3] at h2;cases h2
  ·exact h4 h2
theorem prevR_next {l:List Rul} {k:Nat} {r:Rul} (h:l[k]?=some r):prevR l (k+1)=some r.n:=by rw [prevR,h,Option.map_some]
/-- Names that rise. -/
def RisingR (l:List Rul):Prop:=l.Pairwise fun p q=>Op.bytesLess p.n q.n=true
theorem rulesE_ok:∀ (l:List Rul) (p:Option Str),rulesE p l=0→(∀ r ∈ l,r.c.err=0)∧RisingR l∧∀ q,p=some q→∀ r ∈ l,Op.bytesLess q r.n=true
 | [],_,_=>⟨by simp,.nil,by simp⟩
 | r::l,p,h=>by
  rw [rulesE] at h
  split at h
  ·omega
  ·split at h
   ·omega
   ·rename_i h2
    split at h
    ·omega
    ·rename_i h3
     obtain ⟨i1,i2,i3⟩:=rulesE_ok l (some r.n) h
     refine ⟨fun x hx => ?_,List.Pairwise.cons (fun x hx=>i3 _ rfl x hx) i2,fun q hq x hx => ?_⟩
     ·rcases List.mem_cons.1 hx with rfl|hx
      ·simpa using h3
      ·exact i1 x hx
     ·subst hq
      have hqr:=notAft_lt (by simpa using h2:notAfter (some q) r.n=false)
      rcases List.mem_cons.1 hx with rfl|hx
      ·exact hqr
      ·exact blt_trans hqr (i3 _ rfl x hx)
theorem rul_ne {l:List Rul} (h:RisingR l) {i k:Nat} {a b:Rul} (ha:l[i]?=some a) (hb:l[k]?=some b) (hik:i ≠ k):a.n ≠ b.n:=by
 have key:∀ {i k:Nat} {a b:Rul},l[i]?=some a→l[k]?=some b→i < k→a.n ≠ b.n:=fun {i k a b} ha hb hlt e=>by
  have h1:=List.pairwise_iff_getElem.1 h i k (List.getElem?_eq_some_iff.1 ha).1 (List.getElem?_eq_some_iff.1 hb).1 hlt
  rw [(List.getElem?_eq_some_iff.1 ha).2,(List.getElem?_eq_some_iff.1 hb).2,e,blt_irrefl] at h1
  cases h1
 rcases Nat.lt_or_gt_of_ne hik with h1|h1
 ·exact key ha hb h1
 ·exact fun e=>key hb ha h1 e.symm
/-- The conditions that are left beside one rule, up to a place. -/
def othersTo (l:List Rul) (g:List Bool) (i:Nat):Nat→List Cond
 | 0 => []
 | k+1=>match l[k]? with
  | some r=>if k ≠ i∧g.getD k false=false then othersTo l g i k ++ [r.c] else othersTo l g i k
  | none=>othersTo l g i k
theorem others_at {l:List Rul} {k:Nat} {r:Rul} (g:List Bool) (i:Nat) (h:l[k]?=some r):othersTo l g i (k+1)=if k ≠ i∧g.getD k false=false then othersTo l g i k ++ [r.c] else othersTo l g i k:=by rw [othersTo,h]
theorem others_mem {l:List Rul} {g:List Bool} {i:Nat}:∀ (k:Nat) (c:Cond),c ∈ othersTo l g i k→∃ r ∈ l,r.c=c
 | 0,c,h=>by cases h
 | k+1,c,h=>by
  rw [othersTo] at h
  split at h
  ·rename_i r hr
   split at h
   ·rcases List.mem_append.1 h with h|h
    ·exact others_mem k c h
    ·exact ⟨r,List.mem_of_getElem? hr,(List.mem_singleton.1 h).symm⟩
   ·exact others_mem k c h
  ·exact others_mem k c h
theorem others_len {l:List Rul} {g:List Bool} {i:Nat}:∀ k:Nat,(othersTo l g i k).length≤k
 | 0=>Nat.le_refl _
 | k+1=>by
  have ih:=others_len (l:=l) (g:=g) (i:=i) k
  rw [othersTo]
  split
  ·split
   ·rw [List.length_append,List.length_singleton];omega
   ·omega
  ·omega
/-- Which rules are gone behind so many, and their names. -/
def goneTo (l:List Rul) (A:List Cond):Nat→List Bool × List Str
 | 0=>(List.replicate l.length false,[])
 | i+1=>match l[i]? with
  | some r=>if follB (othersTo l (goneTo l A i).1 i l.length) r.c A=true then ((goneTo l A i).1.set i true,(goneTo l A i).2 ++ [r.n]) else goneTo l A i
  | none=>goneTo l A i
theorem gone_at {l:List Rul} {i:Nat} {r:Rul} (A:List Cond) (h:l[i]?=some r):goneTo l A (i+1)=if follB (othersTo l (goneTo l A i).1 i l.length) r.c A=true then ((goneTo l A i).1.set i true,(goneTo l A i).2 ++ [r.n]) else goneTo l A i:=by rw [goneTo,h]
theorem gone_len {l:List Rul} {A:List Cond}:∀ i:Nat,(goneTo l A i).1.length=l.length∧(goneTo l A i).2.length≤i
 | 0=>⟨by rw [goneTo,List.length_replicate],Nat.le_refl _⟩
 | i+1=>by
  obtain ⟨h1,h2⟩:=gone_len (l:=l) (A:=A) i
  rw [goneTo]
  split
  ·split
   ·exact ⟨by rw [List.length_set];exact h1,by rw [List.length_append,List.length_singleton];omega⟩
   ·exact ⟨h1,by omega⟩
  ·exact ⟨h1,by omega⟩
theorem gone_has {l:List Rul} {A:List Cond} (hR:RisingR l):∀ (i k:Nat) (r:Rul),l[k]?=some r→(goneTo l A i).2.contains r.n=(goneTo l A i).1.getD k false
 | 0,k,r,h=>by
  rw [goneTo]
  simp [List.getD_eq_getElem?_getD,List.getElem?_replicate]
  split<;>rfl
 | i+1,k,r,h=>by
  have ih:=gone_has (A:=A) hR i k r h
  rw [goneTo]
  split
  ·rename_i r' hr'
   split
   ·dsimp only
    rw [List.getD_eq_getElem?_getD,List.getElem?_set,List.contains_eq_any_beq,List.any_append,← List.contains_eq_any_beq,ih]
    by_cases hik:i=k
    ·subst hik
     rw [hr'] at h
     cases h
     rw [if_pos rfl,if_pos (by rw [(gone_len i).1];exact (List.getElem?_eq_some_iff.1 hr').1)]
     simp
    ·have hne:=rul_ne hR hr' h hik
     rw [if_neg hik,List.getD_eq_getElem?_getD]
     have:(r.n == r'.n)=false:=by simpa using fun e=>hne e.symm
     simp [this]
   ·exact ih
  ·exact ih
/-- The needless rules, with the error. -/
def needlessN (l:List Rul):List Str × Int:=
 if rulesN l ≠ 0 then ([],rulesN l) else if 12 < (Cond.atss (l.map Rul.c) []).length then ([],2) else ((goneTo l (Cond.atss (l.map Rul.c) []) l.length).2,0)
/-- Rules without error. -/
structure RulsGood (l:List Rul):Prop where
 few:l.length≤200
 nice:∀ r ∈ l,r.c.Good
 rise:RisingR l
theorem ruls_good {l:List Rul} (ht:∀ r ∈ l,r.Ok) (h:rulesN l=0):RulsGood l:=by
 unfold rulesN at h
 split at h
 ·omega
 ·obtain ⟨h1,h2,_⟩:=rulesE_ok l none h
  exact ⟨by omega,fun r hr=>err_good (ht r hr).c (h1 r hr),h2⟩
theorem ruls_acnts:∀ l:List Rul,(∀ r ∈ l,r.c.Good)→Cond.acnts (l.map Rul.c)≤200 * l.length
 | [],_=>by rw [List.map_nil,acnts_nil];exact Nat.zero_le _
 | r::l,h=>by
  have h1:=ruls_acnts l fun x hx=>h x (by simp [hx])
  have h2:=(h r (by simp)).few
  rw [List.map_cons,acnts_cons,List.length_cons]
  omega
theorem ruls_in (l:List Rul):∀ r ∈ l,r.c.In (Cond.atss (l.map Rul.c) []):=fun r hr=>
 (atss_grow (l.map Rul.c) (fun c _=>ats_grow c) []).2 r.c (List.mem_map.2 ⟨r,hr,rfl⟩)
end Go.Proofs.YtnlbekongmkmjaaGreatDoor
namespace Go.Proofs.YtnlbekongmkmjaaGreatDoor
set_option linter.unusedSimpArgs false
set_option linter.unusedVariables false
open Go.RowKit
set_option maxRecDepth 100000
set_option maxHeartbeats 4000000
theorem checkRules_sem (l:List Rul) (hok:∀ r ∈ l,r.Ok):Sem Tryz.prog 15 [.sl 0 7 (l.map Rul.row)] (.int .i64 (rulesN l)):=by
 have hll:(l.map Rul.row).length=l.length:=List.length_map _
 refine sem_intro (M:=fun t=>mem t [4,2000004,1000021,1000034,1000044]) hT hM Tryz.func15 inferInstance rfl rfl rfl rfl rfl rfl ?_
 repeat' (
  (conv=>whnf)
  first
   | ((try ((with_reducible first|apply NumE.go|apply IdxE.go|apply TextE.go|apply LookE.go|apply CallE.go);(conv=>whnf)));(with_reducible apply SideD.mk);(focus ((first|(intro hc;have hc0:=hc;(try simp only [SPLT] at hc);(try refine And.intro (by first|exact hc0|exact ⟨hc0,hc0⟩|exact ⟨hc0,hc0,hc0⟩) ?_))|skip);first|((try apply givesl);(focus (first|((apply gives_go (checkCond_sem _));(focus (exact DLes.au));(focus exact rfl);(all_goals (exact pre)))|((first|apply gives_go (isName_sem _ _)|apply gives_go (bgm_check ));(focus (exact DLes.au));(focus exact rfl);(all_goals (exact pre)))));(all_goals exact rfl))|exact sideG)))
   | ((with_reducible first|apply DrawR.go0|apply KerB.mk);(focus kernel_rfl))
   | (with_reducible first|apply ends_ret|apply ends_norm|apply Halt'.mk)
   | ((with_reducible apply CondD.mk)<;>intro hb<;>(try simp only [SPLT] at hb)<;>(try first|exact noB)))
 all_goals (try exact (false:Bool))
 ·repeat' ((conv=>whnf);first|exact endR|(with_reducible first|apply And.intro|apply endsO_ret|apply endsO_norm|apply DLes.cons))
  all_goals (conv=>whnf)
  exact rle_int (by rw [rulesN,if_pos (by omega)])
 ·have hR:rulesN l=rulesE none l:=by rw [rulesN,if_neg (by omega)]
  generalize rulesN l=R at hR ⊢
  refine loop_go (M:=fun t=>mem t [4,2000004,1000021,1000034,1000044]) hT hM (fun k:Nat => [(11,.int .i64 k)]) (fun k=>k≤l.length∧rulesE (prevR l k) (l.drop k)=R) (fun k=>l.length - k) (0) ?_ ?_ ?_
  ·(conv=>whnf)
   refine ⟨?_,by rfl⟩
   repeat' ((conv=>whnf);first|exact endF|exact endF2|with_reducible apply DLes.cons)
  ·exact ⟨Nat.zero_le _,hR.symm⟩
  ·rintro k ⟨hk,hv⟩
   cases hx:l[k]? with
   | none=>
    have hm':=List.getElem?_eq_none_iff.1 hx
    rw [List.drop_of_length_le hm',rulesE] at hv
    repeat' (
     (conv=>whnf)
     first
      | ((try ((with_reducible first|apply NumE.go|apply IdxE.go|apply TextE.go|apply LookE.go|apply CallE.go);(conv=>whnf)));(with_reducible apply SideD.mk);(focus ((first|(intro hc;have hc0:=hc;(try simp only [SPLT] at hc);(try refine And.intro (by first|exact hc0|exact ⟨hc0,hc0⟩|exact ⟨hc0,hc0,hc0⟩) ?_))|skip);first|((try apply givesl);(focus (first|((apply gives_go (checkCond_sem _));(focus (exact DLes.au));(focus exact rfl);(all_goals (exact pre)))|((first|apply gives_go (isName_sem _ _)|apply gives_go (bgm_check ));(focus (exact DLes.au));(focus exact rfl);(all_goals (exact pre)))));(all_goals exact rfl))|exact sideG)))
      | ((with_reducible first|apply DrawR.go0|apply KerB.mk);(focus kernel_rfl))
      | (with_reducible first|apply ends_ret|apply ends_norm|apply Halt'.mk)
      | ((with_reducible apply CondD.mk)<;>intro hb<;>(try simp only [SPLT] at hb)<;>(try first|exact noB)))
    all_goals (try exact (false:Bool))
    repeat' ((conv=>whnf);first|exact endR|(with_reducible first|apply And.intro|apply endsO_ret|apply endsO_norm|apply DLes.cons))
    all_goals (conv=>whnf)
    exact rle_int hv
   | some r=>
    have hlt:=(List.getElem?_eq_some_iff.1 hx).1
    obtain ⟨q,hq⟩:∃ q:Rul,0 < k→l[k - 1]?=some q:=⟨l[k - 1]?.getD r,fun h=>by rw [List.getElem?_eq_getElem (by omega)];rfl⟩
    have hnx:=prevR_next hx
    have hro:=hok r (List.mem_of_getElem? hx)
    have h1:=isName_sem r.n hro.n
    have h2:=checkCond_sem r.c
    rw [rulesE_at hx,prevR_bad hq] at hv
    obtain ⟨n,c⟩:=r
    obtain ⟨qn,⟨kq,ksq,pq,vsq,loq,hiq⟩⟩:=q
    dsimp only at h1 h2 hv hnx
    generalize isNameB n=b1 at h1 hv
    generalize c.err=e1 at h2 hv
    obtain ⟨k1,ks1,p1,vs1,lo1,hi1⟩:=c
    rw [Cond.row_mk] at h2
    repeat' (
     (conv=>whnf)
     first
      | ((try ((with_reducible first|apply NumE.go|apply IdxE.go|apply TextE.go|apply LookE.go|apply CallE.go);(conv=>whnf)));(with_reducible apply SideD.mk);(focus ((first|(intro hc;have hc0:=hc;(try simp only [SPLT] at hc);(try refine And.intro (by first|exact hc0|exact ⟨hc0,hc0⟩|exact ⟨hc0,hc0,hc0⟩) ?_))|skip);first|(exact idx_rul hx rfl)|(exact idx_rul (hq (by omega)) (by omega))|((try apply givesl);(focus (first|((apply gives_go (h1));(focus (exact DLes.au));(focus exact rfl);(all_goals (exact pre)))|((apply gives_go (h2));(focus (exact DLes.au));(focus exact rfl);(all_goals (exact pre)))|((apply gives_go (checkCond_sem _));(focus (exact DLes.au));(focus exact rfl);(all_goals (exact pre)))|((first|apply gives_go (isName_sem _ _)|apply gives_go (bgm_check ));(focus (exact DLes.au));(focus exact rfl);(all_goals (exact pre)))));(all_goals exact rfl))|exact sideG)))
      | ((with_reducible first|apply DrawR.go0|apply KerB.mk);(focus kernel_rfl))
      | (with_reducible first|apply ends_ret|apply ends_norm|apply Halt'.mk)
      | ((with_reducible apply CondD.mk)<;>intro hb<;>(try simp only [SPLT] at hb)<;>(try first|exact noB)))
    all_goals (try exact (false:Bool))
    ·repeat' ((conv=>whnf);first|exact endR|(with_reducible first|apply And.intro|apply endsO_ret|apply endsO_norm|apply DLes.cons))
     all_goals (conv=>whnf)
     exact rle_int (by rw [← hv,if_pos hb])
    ·rename_i hn
     repeat' ((conv=>whnf);first|exact endR|(with_reducible first|apply And.intro|apply endsO_ret|apply endsO_norm|apply DLes.cons))
     all_goals (conv=>whnf)
     exact rle_int (by rw [← hv,if_neg (by simp [hn]),if_pos (by simpa using hb)])
    ·rename_i hn hc
     repeat' ((conv=>whnf);first|exact endR|(with_reducible first|apply And.intro|apply endsO_ret|apply endsO_norm|apply DLes.cons))
     all_goals (conv=>whnf)
     exact rle_int (by rw [← hv,if_neg (by simp [hn]),if_neg (nofR (by simpa using hc)),if_pos hb])
    ·rename_i hn hc
     refine ⟨k+1,⟨by omega,by rw [hnx,← hv,if_neg (by simp [hn]),if_neg (nofR (by simpa using hc)),if_neg (by simpa using hb)]⟩,by omega,?_⟩
     (conv=>whnf)
     refine ⟨?_,by rfl⟩
     repeat' ((conv=>whnf);first|exact endF|exact endF2|with_reducible apply DLes.cons)
end Go.Proofs.YtnlbekongmkmjaaGreatDoor
namespace Go.Proofs.YtnlbekongmkmjaaGreatDoor
set_option linter.unusedSimpArgs false
set_option linter.unusedVariables false
open Go.RowKit
set_option maxRecDepth 100000
/-- Whatever makes some conditions true makes another one true. -/
def Ent (cs:List Cond) (b:Cond):Prop:=∀ v:Cond→Bool,(∀ c ∈ cs,c.ev v=true)→b.ev v=true
theorem Ent.mono {cs ds:List Cond} {b:Cond} (h:Ent cs b) (hs:∀ c ∈ cs,c ∈ ds):Ent ds b:=fun v hv=>h v fun c hc=>hv c (hs c hc)
theorem others_iff {l:List Rul} {g:List Bool} {i:Nat} {c:Cond}:∀ k:Nat,c ∈ othersTo l g i k↔∃ j r,j < k∧j ≠ i∧g.getD j false=false∧l[j]?=some r∧r.c=c
 | 0=>by simp [othersTo]
 | k+1=>by
  have ih:=others_iff (l:=l) (g:=g) (i:=i) (c:=c) k
  cases hx:l[k]? with
  | none=>
   rw [othersTo,hx]
   dsimp only
   rw [ih]
   constructor
   ·rintro ⟨j,r,h1,h2⟩;exact ⟨j,r,by omega,h2⟩
   ·rintro ⟨j,r,h1,h2,h3,h4,h5⟩
    refine ⟨j,r,?_,h2,h3,h4,h5⟩
    rcases Nat.lt_or_ge j k with h|h
    ·exact h
    ·obtain rfl:j=k:=by omega
     rw [hx] at h4;cases h4
  | some r0=>
   rw [others_at g i hx]
   by_cases hh:k ≠ i∧g.getD k false=false
   ·rw [if_pos hh,List.mem_append,ih,List.mem_singleton]
    constructor
    ·rintro (⟨j,r,h1,h2⟩|rfl)
     ·exact ⟨j,r,by omega,h2⟩
     ·exact ⟨k,r0,by omega,hh.1,hh.2,hx,rfl⟩
    ·rintro ⟨j,r,h1,h2,h3,h4,h5⟩
     rcases Nat.lt_or_ge j k with h|h
     ·exact .inl ⟨j,r,h,h2,h3,h4,h5⟩
     ·obtain rfl:j=k:=by omega
      rw [hx] at h4;cases h4
      exact .inr h5.symm
   ·rw [if_neg hh,ih]
    constructor
    ·rintro ⟨j,r,h1,h2⟩;exact ⟨j,r,by omega,h2⟩
    ·rintro ⟨j,r,h1,h2,h3,h4,h5⟩
     refine ⟨j,r,?_,h2,h3,h4,h5⟩
     rcases Nat.lt_or_ge j k with h|h
     ·exact h
     ·obtain rfl:j=k:=by omega
      exact absurd ⟨h2,h3⟩ hh
/-- What is gone stays gone, and only the rule of a step goes there. -/
theorem gone_step {l:List Rul} {A:List Cond} {i:Nat} {r:Rul} (h:l[i]?=some r) (k:Nat):(goneTo l A (i+1)).1.getD k false=if k=i then ((goneTo l A i).1.getD k false || follB (othersTo l (goneTo l A i).1 i l.length) r.c A) else (goneTo l A i).1.getD k false:=by
 rw [gone_at A h]
 have hl:=(gone_len (l:=l) (A:=A) i).1
 have hlt:=(List.getElem?_eq_some_iff.1 h).1
 by_cases hf:follB (othersTo l (goneTo l A i).1 i l.length) r.c A=true
 ·rw [if_pos hf,hf,Bool.or_true]
  dsimp only
  rw [List.getD_eq_getElem?_getD,List.getElem?_set]
  by_cases hk:k=i
  ·subst hk
   rw [if_pos rfl,if_pos rfl,if_pos (by omega)]
   rfl
  ·rw [if_neg (fun e=>hk e.symm),if_neg hk,List.getD_eq_getElem?_getD]
 ·rw [if_neg hf]
  split
  ·rw [show follB (othersTo l (goneTo l A i).1 i l.length) r.c A=false by simpa using hf,Bool.or_false]
  ·rfl
theorem gone_mono {l : List Rul} {A : List Cond} {k : Nat} {i : Nat} : ∀ j : Nat, i ≤ j → j ≤ l.length → (goneTo l A i).1.getD k false = true → (goneTo l A j).1.getD k false = true
  | 0, h, _, hg => by obtain rfl : i = 0 := by omega
                      exact hg
  | j + 1, h, hj, hg => by
    rcases Nat.lt_or_ge i (j + 1) with h1 | h1
    · have ih := gone_mono (l := l) (A := A) (k := k) j (by omega) (by omega) hg
      rw [gone_step (List.getElem?_eq_getElem (by omega)), ih]
      split <;> rfl
    · obtain rfl : i = j + 1 := by omega
      exact hg
theorem gone_zero {l:List Rul} {A:List Cond} (k:Nat):(goneTo l A 0).1.getD k false=false:=by
 rw [goneTo]
 simp [List.getD_eq_getElem?_getD,List.getElem?_replicate]
 split<;>rfl
theorem gone_late {l:List Rul} {A:List Cond} {k:Nat}:∀ i:Nat,i≤l.length→i≤k→(goneTo l A i).1.getD k false=false
 | 0,_,_=>gone_zero k
 | i+1,h,hk=>by
  rw [gone_step (List.getElem?_eq_getElem (by omega)),if_neg (by omega)]
  exact gone_late i (by omega) (by omega)
theorem gone_fol {l:List Rul} {A:List Cond} (hin:∀ r ∈ l,r.c.In A) {i:Nat} {r:Rul} (h:l[i]?=some r):follB (othersTo l (goneTo l A i).1 i l.length) r.c A=true↔Ent (othersTo l (goneTo l A i).1 i l.length) r.c:=
 foll_iff (fun c hc=>by
  obtain ⟨r',hr',rfl⟩:=others_mem _ _ hc
  exact hin r' hr') (hin r (List.mem_of_getElem? h))
theorem gone_fin {l:List Rul} {A:List Cond} {i:Nat} {r:Rul} (h:l[i]?=some r):(goneTo l A l.length).1.getD i false=follB (othersTo l (goneTo l A i).1 i l.length) r.c A:=by
 have hlt:=(List.getElem?_eq_some_iff.1 h).1
 have h1:(goneTo l A (i+1)).1.getD i false=follB (othersTo l (goneTo l A i).1 i l.length) r.c A:=by
  rw [gone_step h,if_pos rfl,gone_late i (by omega) (Nat.le_refl _),Bool.false_or]
 rw [← h1]
 have key:∀ j:Nat,i+1≤j→j≤l.length→(goneTo l A j).1.getD i false=(goneTo l A (i+1)).1.getD i false:=by
  intro j
  induction j with
  | zero=>intro h;omega
  | succ j ih=>
   intro hj hj2
   rcases Nat.lt_or_ge (i+1) (j+1) with h2|h2
   ·rw [gone_step (List.getElem?_eq_getElem (by omega)),if_neg (by omega)]
    exact ih (by omega) (by omega)
   ·obtain rfl:i=j:=by omega
    rfl
 exact key _ (by omega) (Nat.le_refl _)
/-- The rules that are left. -/
def restR (l:List Rul):List Rul:=l.filter fun r => !(needlessN l).1.contains r.n
theorem rest_all {l:List Rul} {A:List Cond} (hR:RisingR l) (hin:∀ r ∈ l,r.c.In A) (v:Cond→Bool)
  (h:∀ r ∈ l,(goneTo l A l.length).2.contains r.n=false→r.c.ev v=true):∀ r ∈ l,r.c.ev v=true:=by
 have key:∀ n i:Nat,n+i=l.length→∀ (k:Nat) (r:Rul),l[k]?=some r→(goneTo l A i).1.getD k false=false→r.c.ev v=true:=by
  intro n
  induction n with
  | zero=>
   intro i hi k r hr hg
   obtain rfl:i=l.length:=by omega
   exact h r (List.mem_of_getElem? hr) (by rw [gone_has hR _ k r hr];exact hg)
  | succ n ih=>
   intro i hi k r hr hg
   have hi2:l[i]?=some (l[i]'(by omega)):=List.getElem?_eq_getElem (by omega)
   have ih:=ih (i+1) (by omega)
   by_cases hk:k=i
   ·subst hk
    by_cases hf:follB (othersTo l (goneTo l A k).1 k l.length) r.c A=true
    ·refine (gone_fol hin hr).1 hf v fun c hc => ?_
     obtain ⟨j,r2,_,hjk,hgj,hr2,rfl⟩:=(others_iff _).1 hc
     exact ih j r2 hr2 (by rw [gone_step hr,if_neg hjk];exact hgj)
    ·exact ih k r hr (by rw [gone_step hr,if_pos rfl,hg,Bool.false_or];simpa using hf)
   ·exact ih k r hr (by rw [gone_step hi2,if_neg hk];exact hg)
 intro r hr
 obtain ⟨k,hk⟩:=List.mem_iff_getElem?.1 hr
 exact key l.length 0 (by omega) k r hk (gone_zero k)
theorem rulesE_of:∀ (l:List Rul) (p:Option Str),(∀ r ∈ l,isNameB r.n=true∧r.c.err=0)→RisingR l→(∀ q,p=some q→∀ r ∈ l,Op.bytesLess q r.n=true)→rulesE p l=0
 | [],_,_,_,_=>rfl
 | r::l,p,h1,h2,h3=>by
  have hna:∀ q n:Str,Op.bytesLess q n=true→notAfter (some q) n=false:=fun q n h=>by
   show (Op.bytesLess n q || n == q)=false
   rw [Bool.or_eq_false_iff]
   refine ⟨?_,?_⟩
   ·rw [Bool.eq_false_iff]
    intro e
    have:=blt_trans h e
    rw [blt_irrefl] at this
    cases this
   ·rw [Bool.eq_false_iff]
    intro e
    have e:n=q:=by simpa using e
    subst e
    rw [blt_irrefl] at h
    cases h
  have hp:notAfter p r.n=false:=by
   cases p with
   | none=>rfl
   | some q=>exact hna q r.n (h3 q rfl r (by simp))
  rw [rulesE,if_neg (by rw [(h1 r (by simp)).1];simp),if_neg (by rw [hp];simp),if_neg (by simp [(h1 r (by simp)).2])]
  refine rulesE_of l (some r.n) (fun x hx=>h1 x (by simp [hx])) (List.Pairwise.of_cons h2) fun q hq x hx => ?_
  cases hq
  exact (List.pairwise_cons.1 h2).1 x hx
theorem rulesE_names:∀ (l:List Rul) (p:Option Str),rulesE p l=0→∀ r ∈ l,isNameB r.n=true∧r.c.err=0
 | [],_,_=>by simp
 | r::l,p,h=>by
  rw [rulesE] at h
  split at h
  ·omega
  ·rename_i h1
   split at h
   ·omega
   ·split at h
    ·omega
    ·rename_i h3
     intro x hx
     rcases List.mem_cons.1 hx with rfl|hx
     ·exact ⟨by simpa using h1,by simpa using h3⟩
     ·exact rulesE_names l _ h x hx
theorem rulesN_filter {l:List Rul} (h:rulesN l=0) (q:Rul→Bool):rulesN (l.filter q)=0:=by
 unfold rulesN at h ⊢
 split at h
 ·omega
 ·have hl:=List.length_filter_le q l
  rw [if_neg (by omega)]
  have h1:=rulesE_names l none h
  obtain ⟨_,h2,_⟩:=rulesE_ok l none h
  exact rulesE_of _ none (fun r hr=>h1 r (List.mem_filter.1 hr).1) (List.Pairwise.filter q h2) (by simp)
theorem nodup_sub {α:Type}:∀ (l m:List α),l.Nodup→(∀ x ∈ l,x ∈ m)→l.length≤m.length
 | [],_,_,_=>Nat.zero_le _
 | a::l,m,hn,hs=>by
  obtain ⟨s,t,rfl⟩:=List.append_of_mem (hs a (by simp))
  obtain ⟨h1,h2⟩:=List.nodup_cons.1 hn
  have:=nodup_sub l (s++t) h2 fun x hx=>by
   have hm:=hs x (by simp [hx])
   simp only [List.mem_append,List.mem_cons] at hm ⊢
   rcases hm with h|rfl|h
   ·exact .inl h
   ·exact absurd hx h1
   ·exact .inr h
  simp only [List.length_append,List.length_cons] at this ⊢
  omega
theorem atss_sub {L:List Cond}:∀ (l:List Cond),(∀ c ∈ l,∀ out,(∀ x ∈ out,x ∈ L)→out.Nodup→(∀ x ∈ c.ats out,x ∈ L)∧(c.ats out).Nodup)→∀ out,(∀ x ∈ out,x ∈ L)→out.Nodup→(∀ x ∈ Cond.atss l out,x ∈ L)∧(Cond.atss l out).Nodup
 | [],_,out,h,hn=>by rw [atss_nil];exact ⟨h,hn⟩
 | c::l,hc,out,h,hn=>by
  obtain ⟨h1,h2⟩:=hc c (by simp) out h hn
  rw [atss_cons]
  exact atss_sub l (fun x hx=>hc x (by simp [hx])) _ h1 h2
theorem ats_sub {L:List Cond} (c:Cond):c.In L→∀ out,(∀ x ∈ out,x ∈ L)→out.Nodup→(∀ x ∈ c.ats out,x ∈ L)∧(c.ats out).Nodup:=by
 induction c using Cond.ind with
 | h k ks p vs lo hi ih=>
  rintro ⟨h1,h2⟩ out ho hn
  rw [ats_mk]
  split
  ·rename_i ha
   split
   ·exact ⟨ho,hn⟩
   ·rename_i hh
    refine ⟨fun x hx => ?_,?_⟩
    ·rcases List.mem_append.1 hx with hx|hx
     ·exact ho x hx
     ·obtain rfl:=List.mem_singleton.1 hx
      exact hasC_iff.1 (h1 ha)
    ·rw [List.nodup_append]
     refine ⟨hn,by simp,fun a ha b hb e => ?_⟩
     obtain rfl:=List.mem_singleton.1 hb
     subst e
     exact hh (hasC_iff.2 ha)
  ·rename_i ha
   exact atss_sub ks (fun c hc=>ih c hc (h2 (by simpa using ha) c hc)) out ho hn
theorem rest_atoms (l:List Rul) (q:Rul→Bool):(Cond.atss ((l.filter q).map Rul.c) []).length≤(Cond.atss (l.map Rul.c) []).length:=by
 have hin:=ruls_in l
 obtain ⟨h1,h2⟩:=atss_sub (L:=Cond.atss (l.map Rul.c) []) ((l.filter q).map Rul.c) (fun c hc=>by
  obtain ⟨r,hr,rfl⟩:=List.mem_map.1 hc
  exact ats_sub r.c (hin r (List.mem_filter.1 hr).1)) [] (by simp) List.nodup_nil
 exact nodup_sub _ _ h2 h1
/-- Of the rules that are left none is needless, and they say what all say. -/
theorem rest_ok {l:List Rul} (h:(needlessN l).2=0):needlessN (restR l)=([],0)∧∀ v:Cond→Bool,(∀ r ∈ restR l,r.c.ev v=true)→∀ r ∈ l,r.c.ev v=true:=by
 have hl:rulesN l=0∧¬ 12 < (Cond.atss (l.map Rul.c) []).length∧needlessN l=((goneTo l (Cond.atss (l.map Rul.c) []) l.length).2,0):=by
  unfold needlessN at h ⊢
  split at h
  ·rename_i h1;exact absurd h h1
  ·rename_i h1
   split at h
   ·cases h
   ·rename_i h2
    exact ⟨by simpa using h1,h2,by rw [if_neg h1,if_neg h2]⟩
 obtain ⟨h1,h2,h3⟩:=hl
 have hin:=ruls_in l
 have hR:RisingR l:=by
  unfold rulesN at h1
  split at h1
  ·omega
  ·exact (rulesE_ok l none h1).2.1
 have hrest:restR l=l.filter fun r => !(goneTo l (Cond.atss (l.map Rul.c) []) l.length).2.contains r.n:=by
  unfold restR;rw [h3]
 have hat:=rest_atoms l fun r => !(goneTo l (Cond.atss (l.map Rul.c) []) l.length).2.contains r.n
 have hre:=rulesN_filter h1 fun r => !(goneTo l (Cond.atss (l.map Rul.c) []) l.length).2.contains r.n
 rw [← hrest] at hat hre
 have hmem:∀ r,r ∈ restR l↔r ∈ l∧(goneTo l (Cond.atss (l.map Rul.c) []) l.length).2.contains r.n=false:=fun r=>by
  rw [hrest,List.mem_filter]
  simp
 refine ⟨?_,fun v hv=>rest_all hR hin v fun r hr hc=>hv r ((hmem r).2 ⟨hr,hc⟩)⟩
 have hRr:RisingR (restR l):=by rw [hrest];exact List.Pairwise.filter _ hR
 have hinr:=ruls_in (restR l)
 have none:∀ i:Nat,i≤(restR l).length→goneTo (restR l) (Cond.atss ((restR l).map Rul.c) []) i=(List.replicate (restR l).length false,[]):=by
  intro i
  induction i with
  | zero=>intro _;rw [goneTo]
  | succ i ih=>
   intro hi
   have ih:=ih (by omega)
   have hr:(restR l)[i]?=some ((restR l)[i]'(by omega)):=List.getElem?_eq_getElem (by omega)
   generalize (restR l)[i]'(by omega)=r at hr
   rw [gone_at _ hr,if_neg,ih]
   intro hf
   have hE:=(gone_fol hinr hr).1 hf
   obtain ⟨hrl,hrc⟩:=(hmem r).1 (List.mem_of_getElem? hr)
   obtain ⟨k,hk⟩:=List.mem_iff_getElem?.1 hrl
   have hgk:(goneTo l (Cond.atss (l.map Rul.c) []) l.length).1.getD k false=false:=by rw [← gone_has hR _ k r hk];exact hrc
   have hfin:=gone_fin (A:=Cond.atss (l.map Rul.c) []) hk
   rw [hgk] at hfin
   have hno:¬ Ent (othersTo l (goneTo l (Cond.atss (l.map Rul.c) []) k).1 k l.length) r.c:=fun e=>by
    rw [(gone_fol hin hk).2 e] at hfin
    cases hfin
   refine hno (hE.mono fun c hc => ?_)
   obtain ⟨j,r2,hj,hji,_,hr2,rfl⟩:=(others_iff _).1 hc
   have hne:=rul_ne hRr hr2 hr hji
   obtain ⟨h2l,h2c⟩:=(hmem r2).1 (List.mem_of_getElem? hr2)
   obtain ⟨k2,hk2⟩:=List.mem_iff_getElem?.1 h2l
   have hk2l:=(List.getElem?_eq_some_iff.1 hk2).1
   have hkl:=(List.getElem?_eq_some_iff.1 hk).1
   refine (others_iff _).2 ⟨k2,r2,hk2l,fun e => ?_,?_,hk2,rfl⟩
   ·subst e
    rw [hk] at hk2
    cases hk2
    exact hne rfl
   ·cases hg:(goneTo l (Cond.atss (l.map Rul.c) []) k).1.getD k2 false with
    | false=>rfl
    | true=>
     have:=gone_mono (l:=l) (k:=k2) l.length (by omega) (Nat.le_refl _) hg
     rw [← gone_has hR _ k2 r2 hk2,h2c] at this
     cases this
 unfold needlessN
 rw [if_neg (by simpa using hre),if_neg (by omega),none _ (Nat.le_refl _)]
theorem rest_holds {l:List Rul} (h:(needlessN l).2=0) (t:List Br):((restR l).all fun r=>r.c.holds t)=l.all fun r=>r.c.holds t:=by
 have h2:=(rest_ok h).2 fun a=>a.holds t
 rw [Bool.eq_iff_iff,List.all_eq_true,List.all_eq_true]
 constructor
 ·intro hr r hm
  have:=h2 (fun r hr'=>by rw [ev_holds];exact hr r hr') r hm
  rwa [ev_holds] at this
 ·intro hr r hm
  exact hr r (List.mem_filter.1 hm).1
end Go.Proofs.YtnlbekongmkmjaaGreatDoor
namespace Go.Proofs.YtnlbekongmkmjaaGreatDoor
set_option linter.unusedSimpArgs false
set_option linter.unusedVariables false
open Go.RowKit
set_option maxRecDepth 100000
set_option maxHeartbeats 4000000
def tabC (A:List Cond) (r:Rul):List Bool:=tabF (r.c.form A) A.length
theorem needless_sem (l:List Rul) (hok:∀ r ∈ l,r.Ok):Sem Tryz.prog 7 [.sl 0 7 (l.map Rul.row)] (.tup [.sl 0 1 ((needlessN l).1.map fun s => [.str s]),.int .i64 (needlessN l).2]):=by
 have h1:=checkRules_sem l hok
 have hll:(l.map Rul.row).length=l.length:=List.length_map _
 unfold needlessN
 by_cases g1:rulesN l=0
 ·have hG:=ruls_good hok g1
  have hfew:=hG.few
  rw [g1] at h1
  rw [if_neg (by simpa using g1)]
  have h2:=formulas_sem (l.map Rul.c) (by rw [List.length_map];omega) (fun c hc=>by
   obtain ⟨r,hr,rfl⟩:=List.mem_map.1 hc
   exact nice_small (n:=200) (by omega) _ (hG.nice r hr).nice) (by have:=ruls_acnts l hG.nice;omega)
  have hin:=ruls_in l
  unfold formsN at h2
  generalize Cond.atss (l.map Rul.c) []=A at h2 hin ⊢
  have hok3:A.length≤12→∀ r ∈ l,(r.c.form A).Ok:=fun h r hr=>form_ok (n:=200) (by omega) r.c (hG.nice r hr).nice (hin r hr)
  clear hin hG g1
  refine sem_intro (M:=fun t=>mem t [7,13,3000014,17,6000080,1000021,1000034,1000044]) hT hM Tryz.func7 inferInstance rfl rfl rfl rfl rfl rfl ?_
  repeat' (
   (conv=>whnf)
   first
    | ((try ((with_reducible first|apply NumE.go|apply IdxE.go|apply TextE.go|apply LookE.go|apply CallE.go);(conv=>whnf)));(with_reducible apply SideD.mk);(focus ((first|(intro hc;have hc0:=hc;(try simp only [SPLT] at hc);(try refine And.intro (by first|exact hc0|exact ⟨hc0,hc0⟩|exact ⟨hc0,hc0,hc0⟩) ?_))|skip);first|((try apply givesl);(focus (first|((apply gives_go (h1));(focus (exact DLes.au));(focus exact rfl);(all_goals (exact pre)))|((first|apply gives_go (checkRules_sem _ _)|apply gives_go (formulas_sem _ _ _ _)|apply gives_go (table_sem _ _ _ _)|apply gives_go (implied_sem _ _ _));(focus (exact DLes.au));(focus exact rfl);(all_goals (exact pre)))));(all_goals exact rfl))|exact sideG)))
    | ((with_reducible first|apply DrawR.go0|apply KerB.mk);(focus kernel_rfl))
    | (with_reducible first|apply ends_ret|apply ends_norm|apply Halt'.mk)
    | ((with_reducible apply CondD.mk)<;>intro hb<;>(try simp only [SPLT] at hb)<;>(try first|exact noB)))
  all_goals (try exact (false:Bool))
  refine loop_go (M:=fun t=>mem t [7,13,3000014,17,6000080,1000021,1000034,1000044]) hT hM (fun i:Nat => [(28,.int .i64 i),(5,.sl 1 6 (((l.take i).map Rul.c).map Cond.row))]) (fun i=>i≤l.length) (fun i=>l.length - i) (0) ?_ ?_ ?_
  ·(conv=>whnf)
   refine ⟨?_,by rfl⟩
   repeat' ((conv=>whnf);first|exact endF|exact endF2|with_reducible apply DLes.cons)
  ·exact Nat.zero_le _
  ·rintro i hi'
   have htl:(((l.take i).map Rul.c).map Cond.row).length≤1000:=by rw [List.length_map,List.length_map,List.length_take];omega
   have hta:(l.take i).length≤1000:=by rw [List.length_take];omega
   cases hx:l[i]? with
   | some r=>
    have hlt:=(List.getElem?_eq_some_iff.1 hx).1
    have htk:=take_at hx
    generalize l.take i=acc at htl hta htk ⊢
    obtain ⟨n,c⟩:=r
    obtain ⟨k1,ks1,p1,vs1,lo1,hi1⟩:=c
    repeat' (
     (conv=>whnf)
     first
      | ((try ((with_reducible first|apply NumE.go|apply IdxE.go|apply TextE.go|apply LookE.go|apply CallE.go);(conv=>whnf)));(with_reducible apply SideD.mk);(focus ((first|(intro hc;have hc0:=hc;(try simp only [SPLT] at hc);(try refine And.intro (by first|exact hc0|exact ⟨hc0,hc0⟩|exact ⟨hc0,hc0,hc0⟩) ?_))|skip);first|(exact idx_rul hx rfl)|((try apply givesl);(focus (((first|apply gives_go (checkRules_sem _ _)|apply gives_go (formulas_sem _ _ _ _)|apply gives_go (table_sem _ _ _ _)|apply gives_go (implied_sem _ _ _));(focus (exact DLes.au));(focus exact rfl);(all_goals (exact pre)))));(all_goals exact rfl))|exact sideG)))
      | ((with_reducible first|apply DrawR.go0|apply KerB.mk);(focus kernel_rfl))
      | (with_reducible first|apply ends_ret|apply ends_norm|apply Halt'.mk)
      | ((with_reducible apply CondD.mk)<;>intro hb<;>(try simp only [SPLT] at hb)<;>(try first|exact noB)))
    all_goals (try exact (false:Bool))
    refine ⟨i+1,by omega,by omega,?_⟩
    (conv=>whnf)
    refine ⟨?_,by rfl⟩
    repeat' ((conv=>whnf);first|exact endF|(exact DLe.of_eq (congrArg (D.sl 1 6) (by rw [htk,List.map_append,List.map_append,List.map_cons,List.map_nil,List.map_cons,List.map_nil,Cond.row_mk])))|exact endF2|with_reducible apply DLes.cons)
   | none=>
    have hm':=List.getElem?_eq_none_iff.1 hx
    rw [List.take_of_length_le hm']
    clear hx htl hta
    by_cases h12:12 < A.length
    ·rw [if_pos h12] at h2 ⊢
     repeat' (
      (conv=>whnf)
      first
       | ((try ((with_reducible first|apply NumE.go|apply IdxE.go|apply TextE.go|apply LookE.go|apply CallE.go);(conv=>whnf)));(with_reducible apply SideD.mk);(focus ((first|(intro hc;have hc0:=hc;(try simp only [SPLT] at hc);(try refine And.intro (by first|exact hc0|exact ⟨hc0,hc0⟩|exact ⟨hc0,hc0,hc0⟩) ?_))|skip);first|((try apply givesl);(focus (first|((apply gives_go (h2));(focus (exact DLes.au));(focus exact rfl);(all_goals (exact pre)))|((first|apply gives_go (checkRules_sem _ _)|apply gives_go (formulas_sem _ _ _ _)|apply gives_go (table_sem _ _ _ _)|apply gives_go (implied_sem _ _ _));(focus (exact DLes.au));(focus exact rfl);(all_goals (exact pre)))));(all_goals exact rfl))|exact sideG)))
       | ((with_reducible first|apply DrawR.go0|apply KerB.mk);(focus kernel_rfl))
       | (with_reducible first|apply ends_ret|apply ends_norm|apply Halt'.mk)
       | ((with_reducible apply CondD.mk)<;>intro hb<;>(try simp only [SPLT] at hb)<;>(try first|exact noB)))
     all_goals (try exact (false:Bool))
     repeat' ((conv=>whnf);first|exact endR|(with_reducible first|apply And.intro|apply endsO_ret|apply endsO_norm|apply DLes.cons))
     all_goals (conv=>whnf)
    ·rw [if_neg h12] at h2 ⊢
     have hok3:=hok3 (by omega)
     dsimp only at h2
     repeat' (
      (conv=>whnf)
      first
       | ((try ((with_reducible first|apply NumE.go|apply IdxE.go|apply TextE.go|apply LookE.go|apply CallE.go);(conv=>whnf)));(with_reducible apply SideD.mk);(focus ((first|(intro hc;have hc0:=hc;(try simp only [SPLT] at hc);(try refine And.intro (by first|exact hc0|exact ⟨hc0,hc0⟩|exact ⟨hc0,hc0,hc0⟩) ?_))|skip);first|((try apply givesl);(focus (first|((apply gives_go (h2));(focus (exact DLes.au));(focus exact rfl);(all_goals (exact pre)))|((first|apply gives_go (checkRules_sem _ _)|apply gives_go (formulas_sem _ _ _ _)|apply gives_go (table_sem _ _ _ _)|apply gives_go (implied_sem _ _ _));(focus (exact DLes.au));(focus exact rfl);(all_goals (exact pre)))));(all_goals exact rfl))|exact sideG)))
       | ((with_reducible first|apply DrawR.go0|apply KerB.mk);(focus kernel_rfl))
       | (with_reducible first|apply ends_ret|apply ends_norm|apply Halt'.mk)
       | ((with_reducible apply CondD.mk)<;>intro hb<;>(try simp only [SPLT] at hb)<;>(try first|exact noB)))
     all_goals (try exact (false:Bool))
     refine loop_go (M:=fun t=>mem t [7,13,3000014,17,6000080,1000021,1000034,1000044]) hT hM (fun i:Nat => [(49,.int .i64 i),(11,.sl 1 1 (((l.take i).map (tabC A)).map slR))]) (fun i=>i≤l.length) (fun i=>l.length - i) (0) ?_ ?_ ?_
     ·(conv=>whnf)
      refine ⟨?_,by rfl⟩
      repeat' ((conv=>whnf);first|exact endF|exact endF2|with_reducible apply DLes.cons)
     ·exact Nat.zero_le _
     ·rintro j hj
      have htl:(((l.take j).map (tabC A)).map slR).length≤1000:=by rw [List.length_map,List.length_map,List.length_take];omega
      have hta:(l.take j).length≤1000:=by rw [List.length_take];omega
      have hfl:(((l.map Rul.c).map (Cond.form A)).map Form.row).length=l.length:=by rw [List.length_map,List.length_map,List.length_map]
      cases hx:l[j]? with
      | some r=>
       have hlt:=(List.getElem?_eq_some_iff.1 hx).1
       have htk:=take_at hx
       have hy:((l.map Rul.c).map (Cond.form A))[j]?=some (r.c.form A):=by rw [List.getElem?_map,List.getElem?_map,hx];rfl
       have h4:Sem Tryz.prog 19 [.agg (r.c.form A).row,.int .i64 A.length] (.sl 0 1 ((tabC A r).map boR)):=(table_sem _ (hok3 r (List.mem_of_getElem? hx)) A.length (by omega)).frozen
       generalize l.take j=acc at htl hta htk ⊢
       generalize htr:tabC A r=tr at h4
       generalize r.c.form A=y at h4 hy
       obtain ⟨k3,a3,fs3⟩:=y
       rw [Form.row_mk] at h4
       repeat' (
        (conv=>whnf)
        first
         | ((try ((with_reducible first|apply NumE.go|apply IdxE.go|apply TextE.go|apply LookE.go|apply CallE.go);(conv=>whnf)));(with_reducible apply SideD.mk);(focus ((first|(intro hc;have hc0:=hc;(try simp only [SPLT] at hc);(try refine And.intro (by first|exact hc0|exact ⟨hc0,hc0⟩|exact ⟨hc0,hc0,hc0⟩) ?_))|skip);first|(exact idx_form hy rfl)|((try apply givesl);(focus (first|((apply gives_go (h4));(focus (exact DLes.au));(focus exact rfl);(all_goals (exact pre)))|((first|apply gives_go (checkRules_sem _ _)|apply gives_go (formulas_sem _ _ _ _)|apply gives_go (table_sem _ _ _ _)|apply gives_go (implied_sem _ _ _));(focus (exact DLes.au));(focus exact rfl);(all_goals (exact pre)))));(all_goals exact rfl))|exact sideG)))
         | ((with_reducible first|apply DrawR.go0|apply KerB.mk);(focus kernel_rfl))
         | (with_reducible first|apply ends_ret|apply ends_norm|apply Halt'.mk)
         | ((with_reducible apply CondD.mk)<;>intro hb<;>(try simp only [SPLT] at hb)<;>(try first|exact noB)))
       all_goals (try exact (false:Bool))
       refine ⟨j+1,by omega,by omega,?_⟩
       (conv=>whnf)
       refine ⟨?_,by rfl⟩
       repeat' ((conv=>whnf);first|exact endF|(exact DLe.of_eq (congrArg (D.sl 1 1) (by rw [htk,List.map_append,List.map_append,List.map_cons,List.map_nil,List.map_cons,List.map_nil,htr];rfl)))|exact endF2|with_reducible apply DLes.cons)
      | none=>
       have hm2:=List.getElem?_eq_none_iff.1 hx
       rw [List.take_of_length_le hm2]
       clear hx htl hta
       have htT:∀ k r,l[k]?=some r→(l.map (tabC A))[k]?=some (tabC A r):=fun k r h=>by rw [List.getElem?_map,h];rfl
       repeat' (
        (conv=>whnf)
        first
         | ((try ((with_reducible first|apply NumE.go|apply IdxE.go|apply TextE.go|apply LookE.go|apply CallE.go);(conv=>whnf)));(with_reducible apply SideD.mk);(focus ((first|(intro hc;have hc0:=hc;(try simp only [SPLT] at hc);(try refine And.intro (by first|exact hc0|exact ⟨hc0,hc0⟩|exact ⟨hc0,hc0,hc0⟩) ?_))|skip);first|((try apply givesl);(focus (((first|apply gives_go (checkRules_sem _ _)|apply gives_go (formulas_sem _ _ _ _)|apply gives_go (table_sem _ _ _ _)|apply gives_go (implied_sem _ _ _));(focus (exact DLes.au));(focus exact rfl);(all_goals (exact pre)))));(all_goals exact rfl))|exact sideG)))
         | ((with_reducible first|apply DrawR.go0|apply KerB.mk);(focus kernel_rfl))
         | (with_reducible first|apply ends_ret|apply ends_norm|apply Halt'.mk)
         | ((with_reducible apply CondD.mk)<;>intro hb<;>(try simp only [SPLT] at hb)<;>(try first|exact noB)))
       all_goals (try exact (false:Bool))
       refine ht_frzI [11] ?_
       conv=>whnf
       have hTl:((l.map (tabC A)).map slR).length=l.length:=by rw [List.length_map,List.length_map]
       have hzz:List.replicate ((l.length:Int)).toNat (zeroD [Value.bool false])=(goneTo l A 0).1.map boR:=by rw [goneTo,Int.toNat_natCast,List.map_replicate];rfl
       rw [← hll] at hzz
       refine loop_go (M:=fun t=>mem t [7,13,3000014,17,6000080,1000021,1000034,1000044]) hT hM (fun i:Nat => [(65,.int .i64 i),(14,.sl 2 1 ((goneTo l A i).1.map boR)),(15,.sl 1 1 ((goneTo l A i).2.map fun s => [.str s]))]) (fun i=>i≤l.length) (fun i=>l.length - i) (0) ?_ ?_ ?_
       ·(conv=>whnf)
        refine ⟨?_,by rfl⟩
        repeat' ((conv=>whnf);first|exact endF|(exact DLe.of_eq (congrArg (D.sl 2 1) hzz))|(exact dle_nil rfl)|exact endF2|with_reducible apply DLes.cons)
       ·exact Nat.zero_le _
       ·rintro i hi2
        obtain ⟨hgl,hol⟩:=gone_len (l:=l) (A:=A) i
        cases hx:l[i]? with
        | none=>
         have hm3:=List.getElem?_eq_none_iff.1 hx
         obtain rfl:i=l.length:=by omega
         repeat' (
          (conv=>whnf)
          first
           | ((try ((with_reducible first|apply NumE.go|apply IdxE.go|apply TextE.go|apply LookE.go|apply CallE.go);(conv=>whnf)));(with_reducible apply SideD.mk);(focus ((first|(intro hc;have hc0:=hc;(try simp only [SPLT] at hc);(try refine And.intro (by first|exact hc0|exact ⟨hc0,hc0⟩|exact ⟨hc0,hc0,hc0⟩) ?_))|skip);first|((try apply givesl);(focus (((first|apply gives_go (checkRules_sem _ _)|apply gives_go (formulas_sem _ _ _ _)|apply gives_go (table_sem _ _ _ _)|apply gives_go (implied_sem _ _ _));(focus (exact DLes.au));(focus exact rfl);(all_goals (exact pre)))));(all_goals exact rfl))|exact sideG)))
           | ((with_reducible first|apply DrawR.go0|apply KerB.mk);(focus kernel_rfl))
           | (with_reducible first|apply ends_ret|apply ends_norm|apply Halt'.mk)
           | ((with_reducible apply CondD.mk)<;>intro hb<;>(try simp only [SPLT] at hb)<;>(try first|exact noB)))
         all_goals (try exact (false:Bool))
         repeat' ((conv=>whnf);first|exact endR|(with_reducible first|apply And.intro|apply endsO_ret|apply endsO_norm|apply DLes.cons))
         all_goals (conv=>whnf)
        | some r=>
         have hlt:=(List.getElem?_eq_some_iff.1 hx).1
         have hnx:=gone_at A hx
         have hto:=htT i r hx
         have h5:Sem Tryz.prog 20 [.sl 0 1 ((tabC A r).map boR),.sl 0 1 (((othersTo l (goneTo l A i).1 i l.length).map fun a=>tabF (a.form A) A.length).map slR)] (.bool (follB (othersTo l (goneTo l A i).1 i l.length) r.c A)):=by
          rw [← imp_foll]
          refine implied_sem _ _ fun t ht => ?_
          obtain ⟨a,_,rfl⟩:=List.mem_map.1 ht
          unfold tabC
          rw [tabF_len,tabF_len]
         generalize goneTo l A i=G at hgl hol hnx h5 ⊢
         obtain ⟨g,out⟩:=G
         dsimp only at hgl hol hnx h5 ⊢
         have hgi:g[i]?=some (g[i]'(by omega)):=List.getElem?_eq_getElem (by omega)
         generalize g[i]'(by omega)=gi0 at hgi
         have hgm:(g.map boR).length=l.length:=by rw [List.length_map];exact hgl
         have hom:(out.map fun s => [D.str s]).length≤1000:=by rw [List.length_map];omega
         generalize follB (othersTo l g i l.length) r.c A=b5 at h5 hnx
         generalize tabC A r=tr at h5 hto
         obtain ⟨n,c⟩:=r
         dsimp only at hnx
         obtain ⟨k1,ks1,p1,vs1,lo1,hi1⟩:=c
         repeat' (
          (conv=>whnf)
          first
           | ((try ((with_reducible first|apply NumE.go|apply IdxE.go|apply TextE.go|apply LookE.go|apply CallE.go);(conv=>whnf)));(with_reducible apply SideD.mk);(focus ((first|(intro hc;have hc0:=hc;(try simp only [SPLT] at hc);(try refine And.intro (by first|exact hc0|exact ⟨hc0,hc0⟩|exact ⟨hc0,hc0,hc0⟩) ?_))|skip);first|(exact idx_rul hx rfl)|((try apply givesl);(focus (((first|apply gives_go (checkRules_sem _ _)|apply gives_go (formulas_sem _ _ _ _)|apply gives_go (table_sem _ _ _ _)|apply gives_go (implied_sem _ _ _));(focus (exact DLes.au));(focus exact rfl);(all_goals (exact pre)))));(all_goals exact rfl))|exact sideG)))
           | ((with_reducible first|apply DrawR.go0|apply KerB.mk);(focus kernel_rfl))
           | (with_reducible first|apply ends_ret|apply ends_norm|apply Halt'.mk)
           | ((with_reducible apply CondD.mk)<;>intro hb<;>(try simp only [SPLT] at hb)<;>(try first|exact noB)))
         all_goals (try exact (false:Bool))
         refine loop_go (M:=fun t=>mem t [7,13,3000014,17,6000080,1000021,1000034,1000044]) hT hM (fun k:Nat => [(72,.int .i64 k),(18,.sl 1 1 (((othersTo l g i k).map fun a=>tabF (a.form A) A.length).map slR))]) (fun k=>k≤l.length) (fun k=>l.length - k) (0) ?_ ?_ ?_
         ·(conv=>whnf)
          refine ⟨?_,by rfl⟩
          repeat' ((conv=>whnf);first|exact endF|(exact dle_nil rfl)|exact endF2|with_reducible apply DLes.cons)
         ·exact Nat.zero_le _
         ·rintro k hk
          have hol2:(((othersTo l g i k).map fun a=>tabF (a.form A) A.length).map slR).length≤1000:=by
           rw [List.length_map,List.length_map]
           have:=others_len (l:=l) (g:=g) (i:=i) k
           omega
          cases hz:l[k]? with
          | none=>
           have hm4:=List.getElem?_eq_none_iff.1 hz
           obtain rfl:k=l.length:=by omega
           repeat' (
            (conv=>whnf)
            first
             | ((try ((with_reducible first|apply NumE.go|apply IdxE.go|apply TextE.go|apply LookE.go|apply CallE.go);(conv=>whnf)));(with_reducible apply SideD.mk);(focus ((first|(intro hc;have hc0:=hc;(try simp only [SPLT] at hc);(try refine And.intro (by first|exact hc0|exact ⟨hc0,hc0⟩|exact ⟨hc0,hc0,hc0⟩) ?_))|skip);first|(exact idx_sl hto rfl)|(exact idx_bo hgi rfl)|(exact ⟨by omega,by rw [Int.toNat_natCast,List.getElem?_eq_getElem (by omega)]⟩)|(exact ⟨rfl,rfl,by show _+1≤1000000000;omega⟩)|((try apply givesl);(focus (first|((apply gives_go (h5));(focus (exact DLes.au));(focus exact rfl);(all_goals (exact pre)))|((first|apply gives_go (checkRules_sem _ _)|apply gives_go (formulas_sem _ _ _ _)|apply gives_go (table_sem _ _ _ _)|apply gives_go (implied_sem _ _ _));(focus (exact DLes.au));(focus exact rfl);(all_goals (exact pre)))));(all_goals exact rfl))|exact sideG)))
             | ((with_reducible first|apply DrawR.go0|apply KerB.mk);(focus kernel_rfl))
             | (with_reducible first|apply ends_ret|apply ends_norm|apply Halt'.mk)
             | ((with_reducible apply CondD.mk)<;>intro hb<;>(try simp only [SPLT] at hb)<;>(try first|exact noB)))
           all_goals (try exact (false:Bool))
           ·rename_i hb
            rw [if_pos hb] at hnx
            have hn1:(goneTo l A (i+1)).1=g.set i true:=by rw [hnx]
            have hn2:(goneTo l A (i+1)).2=out ++ [n]:=by rw [hnx]
            refine ⟨i+1,by omega,by omega,?_⟩
            (conv=>whnf)
            refine ⟨?_,by rfl⟩
            repeat' ((conv=>whnf);first|exact endF|(exact dle_sl (by rw [hn2,List.map_append];rfl))|(exact dle_sl (by rw [hn1,List.map_set];rfl))|exact endF2|with_reducible apply DLes.cons)
           ·rename_i hb
            rw [if_neg (by simp [hb])] at hnx
            have hn1:(goneTo l A (i+1)).1=g:=by rw [hnx]
            have hn2:(goneTo l A (i+1)).2=out:=by rw [hnx]
            refine ⟨i+1,by omega,by omega,?_⟩
            (conv=>whnf)
            refine ⟨?_,by rfl⟩
            repeat' ((conv=>whnf);first|exact endF|(exact dle_sl (by rw [hn2]))|(exact dle_sl (by rw [hn1]))|exact endF2|with_reducible apply DLes.cons)
          | some r2=>
           have hlk:=(List.getElem?_eq_some_iff.1 hz).1
           have htk:=htT k r2 hz
           have hgk:g[k]?=some (g.getD k false):=by rw [List.getD_eq_getElem?_getD,List.getElem?_eq_getElem (by omega)];rfl
           have hat:=others_at g i hz
           generalize g.getD k false=gk at hgk hat
           repeat' (
            (conv=>whnf)
            first
             | ((try ((with_reducible first|apply NumE.go|apply IdxE.go|apply TextE.go|apply LookE.go|apply CallE.go);(conv=>whnf)));(with_reducible apply SideD.mk);(focus ((first|(intro hc;have hc0:=hc;(try simp only [SPLT] at hc);(try refine And.intro (by first|exact hc0|exact ⟨hc0,hc0⟩|exact ⟨hc0,hc0,hc0⟩) ?_))|skip);first|(exact idx_sl htk rfl)|(exact idx_bo hgk rfl)|(exact ⟨rfl,rfl,by show _+1≤1000000000;omega⟩)|((try apply givesl);(focus (((first|apply gives_go (checkRules_sem _ _)|apply gives_go (formulas_sem _ _ _ _)|apply gives_go (table_sem _ _ _ _)|apply gives_go (implied_sem _ _ _));(focus (exact DLes.au));(focus exact rfl);(all_goals (exact pre)))));(all_goals exact rfl))|exact sideG)))
             | ((with_reducible first|apply DrawR.go0|apply KerB.mk);(focus kernel_rfl))
             | (with_reducible first|apply ends_ret|apply ends_norm|apply Halt'.mk)
             | ((with_reducible apply CondD.mk)<;>intro hb<;>(try simp only [SPLT] at hb)<;>(try first|exact noB|(omega;done))))
           all_goals (try exact (false:Bool))
           ·rename_i hb
            rw [if_pos ⟨by omega,hb.2⟩] at hat
            refine ⟨k+1,by omega,by omega,?_⟩
            (conv=>whnf)
            refine ⟨?_,by rfl⟩
            repeat' ((conv=>whnf);first|exact endF|(exact dle_sl (by rw [hat,List.map_append,List.map_append];rfl))|exact endF2|with_reducible apply DLes.cons)
           ·rename_i hb
            rw [if_neg (by rintro ⟨q1,q2⟩;rcases hb with hb|hb;omega;rw [q2] at hb;cases hb)] at hat
            refine ⟨k+1,by omega,by omega,?_⟩
            (conv=>whnf)
            refine ⟨?_,by rfl⟩
            repeat' ((conv=>whnf);first|exact endF|(exact dle_sl (by rw [hat]))|exact endF2|with_reducible apply DLes.cons)
           ·rw [if_neg (by rintro ⟨q1,q2⟩;omega)] at hat
            refine ⟨k+1,by omega,by omega,?_⟩
            (conv=>whnf)
            refine ⟨?_,by rfl⟩
            repeat' ((conv=>whnf);first|exact endF|(exact dle_sl (by rw [hat]))|exact endF2|with_reducible apply DLes.cons)
 ·rw [if_pos g1]
  generalize rulesN l=e1 at h1 g1 ⊢
  refine sem_intro (M:=fun t=>mem t [7,13,3000014,17,6000080,1000021,1000034,1000044]) hT hM Tryz.func7 inferInstance rfl rfl rfl rfl rfl rfl ?_
  repeat' (
   (conv=>whnf)
   first
    | ((try ((with_reducible first|apply NumE.go|apply IdxE.go|apply TextE.go|apply LookE.go|apply CallE.go);(conv=>whnf)));(with_reducible apply SideD.mk);(focus ((first|(intro hc;have hc0:=hc;(try simp only [SPLT] at hc);(try refine And.intro (by first|exact hc0|exact ⟨hc0,hc0⟩|exact ⟨hc0,hc0,hc0⟩) ?_))|skip);first|((try apply givesl);(focus (first|((apply gives_go (h1));(focus (exact DLes.au));(focus exact rfl);(all_goals (exact pre)))|((first|apply gives_go (checkRules_sem _ _)|apply gives_go (formulas_sem _ _ _ _)|apply gives_go (table_sem _ _ _ _)|apply gives_go (implied_sem _ _ _));(focus (exact DLes.au));(focus exact rfl);(all_goals (exact pre)))));(all_goals exact rfl))|exact sideG)))
    | ((with_reducible first|apply DrawR.go0|apply KerB.mk);(focus kernel_rfl))
    | (with_reducible first|apply ends_ret|apply ends_norm|apply Halt'.mk)
    | ((with_reducible apply CondD.mk)<;>intro hb<;>(try simp only [SPLT] at hb)<;>(try first|exact noB)))
  all_goals (try exact (false:Bool))
  repeat' ((conv=>whnf);first|exact endR|(with_reducible first|apply And.intro|apply endsO_ret|apply endsO_norm|apply DLes.cons))
  all_goals (conv=>whnf)
end Go.Proofs.YtnlbekongmkmjaaGreatDoor
