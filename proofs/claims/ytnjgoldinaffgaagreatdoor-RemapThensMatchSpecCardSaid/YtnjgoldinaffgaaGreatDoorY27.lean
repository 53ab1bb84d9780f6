/- Maps: the form of a step, and what is wrong with it, as the reference finds it (walks). Maps: what is wrong with steps, as the reference finds it (walks). -/
import Derived.Test.YtnjgoldinaffgaaGreatDoorY25
import Derived.Test.YtnjgoldinaffgaaGreatDoorY26
namespace Go.Proofs.YtnjgoldinaffgaaGreatDoor
open _root_.Go.Proofs.Tryz
set_option linter.unusedSimpArgs false
set_option linter.unusedVariables false
open Go.RowKit
set_option maxRecDepth 100000
set_option maxHeartbeats 4000000
def zAd:Prop:=∀ (nm:Str) (tbs:List Tb) (rows:List (List D)) (fs:List Fld),(∀ f ∈ fs,f.Txt)→Sem Tryz.prog 121 [.agg [.str nm,.sl 0 2 (tbs.map Tb.row),.sl 0 12 rows],.sl 0 6 (fs.map Fld.row)] (.int .i64 (if fs.length=0 then 9 else if 30 < fs.length then 2 else eM tbs none fs))
theorem zFH {S:Sig} {w:World} {q:Place} {v:Value} {sz:Nat} (h:Rep S w q v .nil):Rep S w q v (.sl 0 sz []):=by
 cases h with
 |fz h=>cases h;exact .fz (.slNil 0 sz)
theorem zH4 {P:Program} {f:Nat} {d0 d e0 e2 e4 e5:D} {s1 s3:Nat} (h:Sem P f [d0,.agg [e0,.sl 0 s1 [],e2,.sl 0 s3 [],e4,e5]] d):Sem P f [d0,.agg [e0,.nil,e2,.nil,e4,e5]] d:=by
 obtain ⟨h1,h2,h3⟩:=h
 refine ⟨h1,h2,fun S w vs hw hl hr=>h3 S w vs hw hl fun i d v hd hv => ?_⟩
 match i,hd with
 |0,hd=>exact hr 0 d v hd hv
 |1,hd=>
  cases hd
  obtain ⟨us,rfl,u1,u2,u3⟩:=(hr 1 _ v rfl hv).agg_inv
  refine .agg us u1 u2 fun j d u hj hu => ?_
  match j,hj with
  |0,hj=>exact u3 0 d u hj hu
  |1,hj=>cases hj;exact zFH (u3 1 _ u rfl hu)
  |2,hj=>exact u3 2 d u hj hu
  |3,hj=>cases hj;exact zFH (u3 3 _ u rfl hu)
  |4,hj=>exact u3 4 d u hj hu
  |5,hj=>exact u3 5 d u hj hu
theorem vR (k:Int) (t:Str) (frows:List (List D)) (n o:Str) (ck:Int) (cks:List Cond) (cp:Str) (cvs:List Str) (clo chi:Int) (rows:List (List D)) (h1:1≤k) (h3:k≤3):
  Sem Tryz.prog 120 [.agg [.int .i64 k,.str t,.sl 0 6 frows,.str n,.str o,.int .i64 ck,.sl 0 6 (cks.map Cond.row),.str cp,.sl 0 1 (cvs.map fun s => [.str s]),.int .i64 clo,.int .i64 chi,.sl 0 12 rows]] (.bool (gZ k t frows.length n o ((Cond.mk ck cks cp cvs clo chi).same zeroM) rows.length)):=by
 have h:=zCw (.mk ck cks cp cvs clo chi) zeroM
 have hr:gZ k t frows.length n o ((Cond.mk ck cks cp cvs clo chi).same zeroM) rows.length=if k=1 then n == [] && o == [] && (Cond.mk ck cks cp cvs clo chi).same zeroM && decide (rows.length=0) else if k=2 then t == [] && decide (frows.length=0) && (Cond.mk ck cks cp cvs clo chi).same zeroM else t == [] && decide (frows.length=0) && n == [] && o == []:=rfl
 generalize gZ k t frows.length n o ((Cond.mk ck cks cp cvs clo chi).same zeroM) rows.length=r at hr ⊢
 generalize (Cond.mk ck cks cp cvs clo chi).same zeroM=z at h hr
 unfold zeroM at h
 rw [Cond.row_mk,Cond.row_mk] at h
 simp only [List.map_nil] at h
 replace h:=zH4 h
 refine si [1000035,1000069,1000157] func120 ?_
 repeat'((conv=>whnf);first|(try(first|apply eN|apply eI|apply eC);conv=>whnf);apply sD;(focus(try intro hc;have hc0:=hc;(try simp only[aA]at hc);try refine aE ?_);first|exact gx h|exact aC)|apply rR|apply rE|apply rH| (apply cD<;>intro hb<;>(try simp only[aA]at hb)<;>try exact aM))
 all_goals try exact false
 all_goals (
  repeat' ((conv=>whnf);first|exact aI|with_reducible first|apply And.intro|apply oR|apply oN|apply dC)
  all_goals (conv=>whnf)
  refine aS ?_
  rw [hr]
  clear h hr
  have e1:((frows.length:Int) == 0)=decide (frows.length=0):=by rw [Bool.eq_iff_iff];simp
  have e2:((rows.length:Int) == 0)=decide (rows.length=0):=by rw [Bool.eq_iff_iff];simp
  have e3:(t == ({ data := #[] }:ByteArray).data.toList)=(t == []):=rfl
  have e4:(n == ({ data := #[] }:ByteArray).data.toList)=(n == []):=rfl
  have e5:(o == ({ data := #[] }:ByteArray).data.toList)=(o == []):=rfl
  (try simp only [e1,e2,e3,e4,e5])
  clear e1 e2 e3 e4 e5
  generalize (t == [])=x1
  generalize (n == [])=x2
  generalize (o == [])=x3
  generalize decide (frows.length=0)=x4
  generalize decide (rows.length=0)=x5
  obtain rfl|rfl|rfl:k=1∨k=2∨k=3:=by omega
  all_goals first|(exfalso;omega)|(clear h1 h3;(try clear hb);revert x1 x2 x3 x4 x5 z;decide)|(simp_all;done))
def tW:Option MVal→MVal × Bool
 |some v=>(v,true)
 |none=>(zV,false)
def xQ:Option Str→Str × Bool
 |some v=>(v,true)
 |none=>([],false)
def zGE:Option MStep→MStep × Bool
 |some v=>(v,true)
 |none=>(zM,false)
theorem zIb {s:Str} {l:List (Str × Str)} {i:Nat} {r:Str × Str} (h:l[i]?=some r):dZ s (l.drop i)=if r.1=s then some r.2 else dZ s (l.drop (i+1)):=by
 rw [List.drop_eq_getElem_cons (bC h),(List.getElem?_eq_some_iff.1 h).2,dZ]
theorem zDJ {e p:Int} {l:List Fld} {i:Nat} {f:Fld} (h:l[i]?=some f):kW e p (l.drop i)=if f.el=e∧f.pt=p then some f.vl else kW e p (l.drop (i+1)):=by
 rw [List.drop_eq_getElem_cons (bC h),(List.getElem?_eq_some_iff.1 h).2,kW]
theorem zCi {t:Str} {e p:Int} {l:List MStep} {i:Nat} {s:MStep} (h:l[i]?=some s):cS t e p (l.drop i)=if s.kind=1∧s.tag=t then (match kW e p s.flds with
  |some v=>some v
  | none=>cS t e p (l.drop (i+1))) else cS t e p (l.drop (i+1)):=by
 rw [List.drop_eq_getElem_cons (bC h),(List.getElem?_eq_some_iff.1 h).2,cS]
 rfl
theorem zKi {n:Str} {l:List MStep} {i:Nat} {s:MStep} (h:l[i]?=some s):eE n (l.drop i)=if s.kind=2∧s.name=n then some s else eE n (l.drop (i+1)):=by
 rw [List.drop_eq_getElem_cons (bC h),(List.getElem?_eq_some_iff.1 h).2,eE]
theorem zBf (t:Tb) (s:Str) (hl:t.rows.length≤1000000):Sem Tryz.prog 78 [.agg t.row,.str s] (.tup [.str (xQ (dZ s t.rows)).1,.bool (xQ (dZ s t.rows)).2]):=by
 obtain ⟨nm,rows⟩:=t
 have hll:(rows.map rU).length=rows.length:=List.length_map _
 dsimp only at hl ⊢
 generalize hr:dZ s rows=r
 generalize hq:xQ r=q
 obtain ⟨q1,q2⟩:=q
 unfold Tb.row
 dsimp only
 refine si [1000035,1000069,1000157] func78 ?_
 repeat'((conv=>whnf);first|(try(first|apply eN|apply eI|apply eC);conv=>whnf);apply sD;(focus first|exact bV)|apply rR|apply rE|apply rH| (apply cD<;>intro hb<;>(try simp only[aA]at hb)<;>try exact aM))
 all_goals try exact false
 refine aL (M:=fun t=>gF t [1000035,1000069,1000157]) hT hM (fun i:Nat => [(6,.int .i64 i)]) (fun i=>i≤rows.length∧dZ s (rows.drop i)=r) (fun i=>rows.length - i) (0) ?_ ?_ ?_
 ·exact aV
 ·exact ⟨Nat.zero_le _,hr⟩
 ·rintro i ⟨hi,hv⟩
  cases hx:rows[i]? with
  |none=>
   have hm:=List.getElem?_eq_none_iff.1 hx
   rw [List.drop_of_length_le hm,dZ] at hv
   subst hv
   cases hq
   repeat'((conv=>whnf);first|(try(first|apply eN|apply eI|apply eC);conv=>whnf);apply sD;(focus first|exact bV)|apply rR|apply rE|apply rH| (apply cD<;>intro hb<;>(try simp only[aA]at hb)<;>try exact aM))
   all_goals try exact false
   exact aT
  |some x=>
   have hlt:=(bC hx)
   rw [zIb hx] at hv
   repeat'((conv=>whnf);first|(try(first|apply eN|apply eI|apply eC);conv=>whnf);apply sD;(focus first|(exact aP hx rfl)|exact bV)|apply rR|apply rE|apply rH| (apply cD<;>intro hb<;>(try simp only[aA]at hb)<;>try exact aM))
   all_goals try exact false
   ·rw [if_pos (by simpa using hb)] at hv
    subst hv
    cases hq
    exact aT
   ·rw [if_neg (by simpa using hb)] at hv
    refine ⟨i+1,⟨by omega,hv⟩,by omega,?_⟩
    exact aV
theorem qI (l:List MStep) (n:Str):Sem Tryz.prog 46 [.sl 0 12 (l.map MStep.row),.str n] (.tup [.agg (zGE (eE n l)).1.row,.bool (zGE (eE n l)).2]):=by
 generalize hr:eE n l=r
 generalize hq:zGE r=q
 obtain ⟨⟨qk,qt,qf,qn,qo,⟨ck,cks,cp,cvs,clo,chi⟩,qs⟩,q2⟩:=q
 dsimp only
 rw [MStep.row_mk]
 refine gU 0 rfl rfl fun hl => ?_
 rw [List.length_map] at hl
 have hll:(l.map MStep.row).length=l.length:=List.length_map _
 refine si [4,1000035,1000069,1000157] func46 ?_
 repeat'((conv=>whnf);first|(try(first|apply eN|apply eI|apply eC);conv=>whnf);apply sD;(focus(try intro hc;have hc0:=hc;(try simp only[aA]at hc);try refine aE ?_);first|exact aC)|apply rR|apply rE|apply rH| (apply cD<;>intro hb<;>(try simp only[aA]at hb)<;>try exact aM))
 all_goals try exact false
 refine aL (M:=fun t=>gF t [4,1000035,1000069,1000157]) hT hM (fun i:Nat => [(6,.int .i64 i)]) (fun i=>i≤l.length∧eE n (l.drop i)=r) (fun i=>l.length - i) (0) ?_ ?_ ?_
 ·exact aV
 ·exact ⟨Nat.zero_le _,hr⟩
 ·rintro i ⟨hi,hv⟩
  cases hx:l[i]? with
  |none=>
   have hm:=List.getElem?_eq_none_iff.1 hx
   rw [List.drop_of_length_le hm,eE] at hv
   subst hv
   cases hq
   repeat'((conv=>whnf);first|(try(first|apply eN|apply eI|apply eC);conv=>whnf);apply sD;(focus(try intro hc;have hc0:=hc;(try simp only[aA]at hc);try refine aE ?_);first|exact aC)|apply rR|apply rE|apply rH| (apply cD<;>intro hb<;>(try simp only[aA]at hb)<;>try exact aM))
   all_goals try exact false
   repeat' ((conv=>whnf);first|exact aI|with_reducible first|apply And.intro|apply oR|apply oN|apply dC)
   all_goals (conv=>whnf)
   (first|refine aG ?_|refine aB ?_|skip)
   repeat' (first|exact bE|exact aO|with_reducible apply dC|with_reducible apply aB)
  |some x=>
   have hlt:=(bC hx)
   rw [zKi hx] at hv
   obtain ⟨k,t,fs,nm,o,⟨ck1,cks1,cp1,cvs1,clo1,chi1⟩,ss⟩:=x
   have hkk:(MStep.mk k t fs nm o (.mk ck1 cks1 cp1 cvs1 clo1 chi1) ss).kind=k∧(MStep.mk k t fs nm o (.mk ck1 cks1 cp1 cvs1 clo1 chi1) ss).name=nm:=⟨rfl,rfl⟩
   rw [hkk.1,hkk.2] at hv
   repeat'((conv=>whnf);first|(try(first|apply eN|apply eI|apply eC);conv=>whnf);apply sD;(focus(try intro hc;have hc0:=hc;(try simp only[aA]at hc);try refine aE ?_);first|(exact bN hx rfl)|exact aC)|apply rR|apply rE|apply rH| (apply cD<;>intro hb<;>(try simp only[aA]at hb)<;>try exact aM))
   all_goals try exact false
   ·rw [if_pos (by simpa using hb)] at hv
    subst hv
    cases hq
    exact aT
   ·rw [if_neg (by rintro ⟨h1,h2⟩;rcases hb with h|h<;>contradiction)] at hv
    refine ⟨i+1,⟨by omega,hv⟩,by omega,?_⟩
    exact aV
def orM (a b:Option MVal):Option MVal:=match a with
 |some v=>some v
 |none=>b
theorem zC4 (n:Int):cO n=max n 1:=by unfold cO;omega
theorem fT (l:List MStep) (ns:List Str) (t:Str) (e p:Int) (hfl:∀ s ∈ l,s.flds.length≤1000000):Sem Tryz.prog 77 [.sl 0 12 (l.map MStep.row),.agg [.sl 0 1 (ns.map fun s => [.str s]),.str t,.int .i64 e,.int .i64 p]] (.tup [.agg (tW (cS t e (cO p) l)).1.row,.bool (tW (cS t e (cO p) l)).2]):=by
 generalize hr:cS t e (cO p) l=r
 generalize hq:tW r=q
 obtain ⟨⟨qk,qt,qp,qa⟩,q2⟩:=q
 dsimp only
 unfold MVal.row
 dsimp only
 refine gU 0 rfl rfl fun hl => ?_
 rw [List.length_map] at hl
 have hll:(l.map MStep.row).length=l.length:=List.length_map _
 refine si [4,8,2000008,1000035,1000069,1000157] func77 ?_
 repeat'((conv=>whnf);first|(try(first|apply eN|apply eI|apply eC);conv=>whnf);apply sD;(focus(try intro hc;have hc0:=hc;(try simp only[aA]at hc);try refine aE ?_);first|exact aC)|(first|apply dG|apply kB);kernel_rfl|apply rR|apply rE|apply rH| (apply cD<;>intro hb<;>(try simp only[aA]at hb)<;>try exact aM))
 all_goals try exact false
 refine aL (M:=fun t=>gF t [4,8,2000008,1000035,1000069,1000157]) hT hM (fun i:Nat => [(6,.int .i64 i)]) (fun i=>i≤l.length∧cS t e (cO p) (l.drop i)=r) (fun i=>l.length - i) (0) ?_ ?_ ?_
 ·exact aV
 ·exact ⟨Nat.zero_le _,hr⟩
 ·rintro i ⟨hi,hv⟩
  cases hx:l[i]? with
  |none=>
   have hm:=List.getElem?_eq_none_iff.1 hx
   rw [List.drop_of_length_le hm,cS] at hv
   subst hv
   cases hq
   repeat'((conv=>whnf);first|(try(first|apply eN|apply eI|apply eC);conv=>whnf);apply sD;(focus(try intro hc;have hc0:=hc;(try simp only[aA]at hc);try refine aE ?_);first|exact aC)|(first|apply dG|apply kB);kernel_rfl|apply rR|apply rE|apply rH| (apply cD<;>intro hb<;>(try simp only[aA]at hb)<;>try exact aM))
   all_goals try exact false
   exact aT
  |some x=>
   have hlt:=(bC hx)
   rw [zCi hx] at hv
   have hf0:=hfl x (aK hx)
   obtain ⟨k,tg,fs,nm,o,⟨ck1,cks1,cp1,cvs1,clo1,chi1⟩,ss⟩:=x
   have hkk:(MStep.mk k tg fs nm o (.mk ck1 cks1 cp1 cvs1 clo1 chi1) ss).kind=k∧(MStep.mk k tg fs nm o (.mk ck1 cks1 cp1 cvs1 clo1 chi1) ss).tag=tg∧(MStep.mk k tg fs nm o (.mk ck1 cks1 cp1 cvs1 clo1 chi1) ss).flds=fs:=⟨rfl,rfl,rfl⟩
   rw [hkk.1,hkk.2.1,hkk.2.2] at hv
   rw [hkk.2.2] at hf0
   repeat'((conv=>whnf);first|(try(first|apply eN|apply eI|apply eC);conv=>whnf);apply sD;(focus(try intro hc;have hc0:=hc;(try simp only[aA]at hc);try refine aE ?_);first|(exact bN hx rfl)|exact aC)|(first|apply dG|apply kB);kernel_rfl|apply rR|apply rE|apply rH| (apply cD<;>intro hb<;>(try simp only[aA]at hb)<;>try exact aM))
   all_goals try exact false
   ·rw [if_neg (by rintro ⟨h1,h2⟩;rcases hb with h|h<;>contradiction)] at hv
    refine ⟨i+1,⟨by omega,hv⟩,by omega,?_⟩
    exact aV
   ·rw [if_pos (by simpa using hb)] at hv
    change orM (kW e (cO p) fs) (cS t e (cO p) (l.drop (i+1)))=r at hv
    have hlf:(fs.map Fld.row).length=fs.length:=List.length_map _
    have hpp:=zC4 p
    generalize cO p=pp at hv hpp hr
    refine aL (M:=fun t=>gF t [4,8,2000008,1000035,1000069,1000157]) hT hM (fun j:Nat => [(7,.int .i64 j)]) (fun j=>j≤fs.length∧orM (kW e pp (fs.drop j)) (cS t e pp (l.drop (i+1)))=r) (fun j=>fs.length - j) (0) ?_ ?_ ?_
    ·exact aV
    ·exact ⟨Nat.zero_le _,hv⟩
    ·rintro j ⟨hj,hw⟩
     cases hx2:fs[j]? with
     |none=>
      have hm:=List.getElem?_eq_none_iff.1 hx2
      rw [List.drop_of_length_le hm,kW] at hw
      have hw:cS t e pp (l.drop (i+1))=r:=hw
      repeat'((conv=>whnf);first|(try(first|apply eN|apply eI|apply eC);conv=>whnf);apply sD;(focus(try intro hc;have hc0:=hc;(try simp only[aA]at hc);try refine aE ?_);first|(exact bN hx rfl)|exact aC)|(first|apply dG|apply kB);kernel_rfl|apply rR|apply rE|apply rH| (apply cD<;>intro hb<;>(try simp only[aA]at hb)<;>try exact aM))
      all_goals try exact false
      refine ⟨i+1,⟨by omega,hw⟩,by omega,?_⟩
      exact aV
     |some f=>
      have hlt2:=(bC hx2)
      rw [zDJ hx2] at hw
      repeat'((conv=>whnf);first|(try(first|apply eN|apply eI|apply eC);conv=>whnf);apply sD;(focus(try intro hc;have hc0:=hc;(try simp only[aA]at hc);try refine aE ?_);first|(exact bN hx rfl)|(exact jR hx2 rfl)|exact aC)|(first|apply dG|apply kB);kernel_rfl|apply rR|apply rE|apply rH| (apply cD<;>intro hb<;>(try simp only[aA]at hb)<;>try exact aM))
      all_goals try exact false
      ·rw [if_pos ⟨hb.1,by rw [hpp];exact hb.2⟩] at hw
       have hw:some f.vl=r:=hw
       subst hw
       cases hq
       exact aT
      ·rw [if_neg (by rintro ⟨h1,h2⟩;rw [hpp] at h2;rcases hb with h|h<;>contradiction)] at hw
       refine ⟨j+1,⟨by omega,hw⟩,by omega,?_⟩
       exact aV
theorem uQ (l:List MStep) (ns:List Str) (t:Str) (e p:Int) (hfl:∀ s ∈ l,s.flds.length≤1000000):Sem Tryz.prog 115 [.sl 0 12 (l.map MStep.row),.agg [.sl 0 1 (ns.map fun s => [.str s]),.str t,.int .i64 e,.int .i64 p]] (.tup [.agg (tW (cS t e (cO p) l)).1.row,.bool (tW (cS t e (cO p) l)).2]):=by
 generalize hr:cS t e (cO p) l=r
 generalize hq:tW r=q
 obtain ⟨⟨qk,qt,qp,qa⟩,q2⟩:=q
 dsimp only
 unfold MVal.row
 dsimp only
 refine gU 0 rfl rfl fun hl => ?_
 rw [List.length_map] at hl
 have hll:(l.map MStep.row).length=l.length:=List.length_map _
 refine si [4,7,2000007,9,2000009,1000035,1000069,1000157] func115 ?_
 repeat'((conv=>whnf);first|(try(first|apply eN|apply eI|apply eC);conv=>whnf);apply sD;(focus(try intro hc;have hc0:=hc;(try simp only[aA]at hc);try refine aE ?_);first|exact aC)|apply rR|apply rE|apply rH| (apply cD<;>intro hb<;>(try simp only[aA]at hb)<;>try exact aM))
 all_goals try exact false
 refine aL (M:=fun t=>gF t [4,7,2000007,9,2000009,1000035,1000069,1000157]) hT hM (fun i:Nat => [(12,.int .i64 i)]) (fun i=>i≤l.length∧cS t e (cO p) (l.drop i)=r) (fun i=>l.length - i) (0) ?_ ?_ ?_
 ·exact aV
 ·exact ⟨Nat.zero_le _,hr⟩
 ·rintro i ⟨hi,hv⟩
  cases hx:l[i]? with
  |none=>
   have hm:=List.getElem?_eq_none_iff.1 hx
   rw [List.drop_of_length_le hm,cS] at hv
   subst hv
   cases hq
   repeat'((conv=>whnf);first|(try(first|apply eN|apply eI|apply eC);conv=>whnf);apply sD;(focus(try intro hc;have hc0:=hc;(try simp only[aA]at hc);try refine aE ?_);first|exact aC)|apply rR|apply rE|apply rH| (apply cD<;>intro hb<;>(try simp only[aA]at hb)<;>try exact aM))
   all_goals try exact false
   exact aT
  |some x=>
   have hlt:=(bC hx)
   rw [zCi hx] at hv
   have hf0:=hfl x (aK hx)
   obtain ⟨k,tg,fs,nm,o,⟨ck1,cks1,cp1,cvs1,clo1,chi1⟩,ss⟩:=x
   have hkk:(MStep.mk k tg fs nm o (.mk ck1 cks1 cp1 cvs1 clo1 chi1) ss).kind=k∧(MStep.mk k tg fs nm o (.mk ck1 cks1 cp1 cvs1 clo1 chi1) ss).tag=tg∧(MStep.mk k tg fs nm o (.mk ck1 cks1 cp1 cvs1 clo1 chi1) ss).flds=fs:=⟨rfl,rfl,rfl⟩
   rw [hkk.1,hkk.2.1,hkk.2.2] at hv
   rw [hkk.2.2] at hf0
   repeat'((conv=>whnf);first|(try(first|apply eN|apply eI|apply eC);conv=>whnf);apply sD;(focus(try intro hc;have hc0:=hc;(try simp only[aA]at hc);try refine aE ?_);first|(exact bN hx rfl)|exact aC)|apply rR|apply rE|apply rH| (apply cD<;>intro hb<;>(try simp only[aA]at hb)<;>try exact aM))
   all_goals try exact false
   ·rw [if_neg (by rintro ⟨h1,h2⟩;rcases hb with h|h<;>contradiction)] at hv
    refine ⟨i+1,⟨by omega,hv⟩,by omega,?_⟩
    exact aV
   ·rw [if_pos (by simpa using hb)] at hv
    change orM (kW e (cO p) fs) (cS t e (cO p) (l.drop (i+1)))=r at hv
    have hlf:(fs.map Fld.row).length=fs.length:=List.length_map _
    have hpp:=zC4 p
    generalize cO p=pp at hv hpp hr
    refine aL (M:=fun t=>gF t [4,7,2000007,9,2000009,1000035,1000069,1000157]) hT hM (fun j:Nat => [(29,.int .i64 j)]) (fun j=>j≤fs.length∧orM (kW e pp (fs.drop j)) (cS t e pp (l.drop (i+1)))=r) (fun j=>fs.length - j) (0) ?_ ?_ ?_
    ·exact aV
    ·exact ⟨Nat.zero_le _,hv⟩
    ·rintro j ⟨hj,hw⟩
     cases hx2:fs[j]? with
     |none=>
      have hm:=List.getElem?_eq_none_iff.1 hx2
      rw [List.drop_of_length_le hm,kW] at hw
      have hw:cS t e pp (l.drop (i+1))=r:=hw
      repeat'((conv=>whnf);first|(try(first|apply eN|apply eI|apply eC);conv=>whnf);apply sD;(focus(try intro hc;have hc0:=hc;(try simp only[aA]at hc);try refine aE ?_);first|(exact bN hx rfl)|exact aC)|apply rR|apply rE|apply rH| (apply cD<;>intro hb<;>(try simp only[aA]at hb)<;>try exact aM))
      all_goals try exact false
      refine ⟨i+1,⟨by omega,hw⟩,by omega,?_⟩
      exact aV
     |some f=>
      have hlt2:=(bC hx2)
      rw [zDJ hx2] at hw
      repeat'((conv=>whnf);first|(try(first|apply eN|apply eI|apply eC);conv=>whnf);apply sD;(focus(try intro hc;have hc0:=hc;(try simp only[aA]at hc);try refine aE ?_);first|(exact bN hx rfl)|(exact jR hx2 rfl)|exact aC)|apply rR|apply rE|apply rH| (apply cD<;>intro hb<;>(try simp only[aA]at hb)<;>try exact aM))
      all_goals try exact false
      ·rw [if_pos ⟨hb.1,by rw [hpp];exact hb.2⟩] at hw
       have hw:some f.vl=r:=hw
       subst hw
       cases hq
       exact aT
      ·rw [if_neg (by rintro ⟨h1,h2⟩;rw [hpp] at h2;rcases hb with h|h<;>contradiction)] at hw
       refine ⟨j+1,⟨by omega,hw⟩,by omega,?_⟩
       exact aV
theorem pP {n:Str}:∀ (l:List Tb) (i:Nat),iD l n=true→∃ (j:Nat) (t:Tb),mK n l i=((i+j:Nat):Int)∧l[j]?=some t∧cZ n l=some t
 |[],i,h=>by cases h
 |t::l,i,h=>by
  unfold mK cZ
  by_cases e:t.name=n
  ·exact ⟨0,t,by rw [if_pos e];rfl,rfl,by rw [if_pos e]⟩
  ·have h2:iD l n=true:=by
    have:iD (t::l) n=((t.name == n) || iD l n):=rfl
    rw [this] at h
    simpa [e] using h
   obtain ⟨j,u,h3,h4,h5⟩:=pP l (i+1) h2
   refine ⟨j+1,u,?_,by simpa using h4,by rw [if_neg e];exact h5⟩
   rw [if_neg e,h3]
   congr 1
   omega
theorem vZ{p:Prop}(h:p:=by first|(refine gx (zBu ?_ ?_ ?_ ?_ ?_ ?_ ?_ ?_ ?_ ?_ ?_ ?_ ?_)<;>exact pre)|(refine gx (zBt ?_ ?_ ?_ ?_ ?_ ?_ ?_ ?_ ?_ ?_ ?_ ?_ ?_)<;>exact pre)|(refine gx (zBs ?_ ?_ ?_ ?_ ?_ ?_ ?_ ?_ ?_ ?_ ?_ ?_ ?_)<;>exact pre)|(refine gx (zBr ?_ ?_ ?_ ?_ ?_ ?_ ?_ ?_ ?_ ?_ ?_ ?_ ?_)<;>exact pre)|(refine gx (zBp ?_ ?_ ?_ ?_ ?_ ?_ ?_ ?_ ?_ ?_ ?_ ?_ ?_)<;>exact pre)|(refine gx (zBq ?_ ?_ ?_ ?_ ?_ ?_ ?_ ?_ ?_ ?_ ?_ ?_ ?_)<;>exact pre)|(refine gx (mU ?_)<;>exact pre)|(refine gx (fT ?_ ?_ ?_ ?_ ?_ ?_)<;>exact pre)|(refine gx (gI ?_ ?_)<;>exact pre)|(refine gx (zBf ?_ ?_ ?_)<;>exact pre)):p:=h
theorem zBv (nm:Str) (tbs:List Tb) (srows:List (List D)) (l:List MStep) (k:Int) (tx pa ta:Str) (over:Bool) (hk:k=1):
  Sem Tryz.prog 44 [.agg [.str nm,.sl 0 2 (tbs.map Tb.row),.sl 0 12 srows],.sl 0 12 (l.map MStep.row),.agg [.int .i64 k,.str tx,.str pa,.str ta],.bool over] (.tup [.agg [.int .i64 k,.str tx,.str pa,.str ta],.bool true,.bool !over]):=by
 refine si [8,11,2000011,13,2000013,1000035,1000069,1000157] func44 ?_
 repeat'((conv=>whnf);first|(try(first|apply eN|apply eI|apply eC);conv=>whnf);apply sD;(focus(try intro hc;have hc0:=hc;(try simp only[aA]at hc);try refine aE ?_);first|exact vZ|exact aC)|(first|apply dG|apply kB);kernel_rfl|apply rR|apply rE|apply rH| (apply cD<;>intro hb<;>(try simp only[aA]at hb)<;>try exact aM))
 all_goals try exact false
 exact aT
theorem zBu (nm:Str) (tbs:List Tb) (srows:List (List D)) (l:List MStep) (k:Int) (tx pa ta:Str) (over:Bool) (ns:List Str) (t:Str) (e p:Int) (h1:Sem Tryz.prog 64 [.str pa] (.tup [.agg [.sl 0 1 (ns.map fun s => [.str s]),.str t,.int .i64 e,.int .i64 p],.int .i64 0])) (hk:k ≠ 1) (hh:ns.length ≠ 0∨e=0∨k=4∨k=5):
  Sem Tryz.prog 44 [.agg [.str nm,.sl 0 2 (tbs.map Tb.row),.sl 0 12 srows],.sl 0 12 (l.map MStep.row),.agg [.int .i64 k,.str tx,.str pa,.str ta],.bool over] (.tup [.agg [.int .i64 k,.str tx,.str pa,.str ta],.bool false,.bool false]):=by
 refine si [8,11,2000011,13,2000013,1000035,1000069,1000157] func44 ?_
 repeat'((conv=>whnf);first|(try(first|apply eN|apply eI|apply eC);conv=>whnf);apply sD;(focus(try intro hc;have hc0:=hc;(try simp only[aA]at hc);try refine aE ?_);first|exact gx h1|exact vZ|exact aC)|(first|apply dG|apply kB);kernel_rfl|apply rR|apply rE|apply rH| (apply cD<;>intro hb<;>(try simp only[aA]at hb)<;>try exact aM))
 all_goals try exact false
 exact aT
theorem zBt (nm:Str) (tbs:List Tb) (srows:List (List D)) (l:List MStep) (k:Int) (tx pa ta:Str) (over:Bool) (ns:List Str) (t:Str) (e p:Int) (h1:Sem Tryz.prog 64 [.str pa] (.tup [.agg [.sl 0 1 (ns.map fun s => [.str s]),.str t,.int .i64 e,.int .i64 p],.int .i64 0])) (hk:2≤k∧k≤3) (ha:ns.length=0) (hb0:e ≠ 0) (hfl:∀ s ∈ l,s.flds.length≤1000000) (hv:cS t e (cO p) l=none):
  Sem Tryz.prog 44 [.agg [.str nm,.sl 0 2 (tbs.map Tb.row),.sl 0 12 srows],.sl 0 12 (l.map MStep.row),.agg [.int .i64 k,.str tx,.str pa,.str ta],.bool over] (.tup [.agg [.int .i64 0,.str [],.str [],.str []],.bool false,.bool true]):=by
 have h2:=fT l ns t e p hfl
 rw [hv] at h2
 simp only [tW,zV,MVal.row] at h2
 refine si [8,11,2000011,13,2000013,1000035,1000069,1000157] func44 ?_
 repeat'((conv=>whnf);first|(try(first|apply eN|apply eI|apply eC);conv=>whnf);apply sD;(focus(try intro hc;have hc0:=hc;(try simp only[aA]at hc);try refine aE ?_);first|exact gx h1|exact gx h2|exact vZ|exact aC)|(first|apply dG|apply kB);kernel_rfl|apply rR|apply rE|apply rH| ((apply cD)<;>intro hb<;>(try simp only [aA] at hb)<;>(try first|exact aM|((exfalso;simp at hb;omega);done))))
 all_goals try exact false
 exact aT
theorem zBs (nm:Str) (tbs:List Tb) (srows:List (List D)) (l:List MStep) (k:Int) (tx pa ta:Str) (over:Bool) (ns:List Str) (t:Str) (e p:Int) (h1:Sem Tryz.prog 64 [.str pa] (.tup [.agg [.sl 0 1 (ns.map fun s => [.str s]),.str t,.int .i64 e,.int .i64 p],.int .i64 0])) (hk:k=2) (ha:ns.length=0) (hb0:e ≠ 0) (hfl:∀ s ∈ l,s.flds.length≤1000000) (o:MVal) (hv:cS t e (cO p) l=some o):
  Sem Tryz.prog 44 [.agg [.str nm,.sl 0 2 (tbs.map Tb.row),.sl 0 12 srows],.sl 0 12 (l.map MStep.row),.agg [.int .i64 k,.str tx,.str pa,.str ta],.bool over] (.tup [.agg o.row,.bool true,.bool true]):=by
 have h2:=fT l ns t e p hfl
 rw [hv] at h2
 simp only [tW,MVal.row] at h2
 obtain ⟨ok,ot,op,oa⟩:=o
 dsimp only at h2
 unfold MVal.row
 refine si [8,11,2000011,13,2000013,1000035,1000069,1000157] func44 ?_
 repeat'((conv=>whnf);first|(try(first|apply eN|apply eI|apply eC);conv=>whnf);apply sD;(focus(try intro hc;have hc0:=hc;(try simp only[aA]at hc);try refine aE ?_);first|exact gx h1|exact gx h2|exact vZ|exact aC)|(first|apply dG|apply kB);kernel_rfl|apply rR|apply rE|apply rH| ((apply cD)<;>intro hb<;>(try simp only [aA] at hb)<;>(try first|exact aM|((exfalso;simp at hb;omega);done))))
 all_goals try exact false
 exact aT
theorem zBr (nm:Str) (tbs:List Tb) (srows:List (List D)) (l:List MStep) (k:Int) (tx pa ta:Str) (over:Bool) (ns:List Str) (t:Str) (e p:Int) (h1:Sem Tryz.prog 64 [.str pa] (.tup [.agg [.sl 0 1 (ns.map fun s => [.str s]),.str t,.int .i64 e,.int .i64 p],.int .i64 0])) (hk:k=3) (ha:ns.length=0) (hb0:e ≠ 0) (hfl:∀ s ∈ l,s.flds.length≤1000000) (o:MVal) (hv:cS t e (cO p) l=some o) (ho:o.kind=2):
  Sem Tryz.prog 44 [.agg [.str nm,.sl 0 2 (tbs.map Tb.row),.sl 0 12 srows],.sl 0 12 (l.map MStep.row),.agg [.int .i64 k,.str tx,.str pa,.str ta],.bool over] (.tup [.agg [.int .i64 3,.str tx,.str o.path,.str ta],.bool true,.bool true]):=by
 have h2:=fT l ns t e p hfl
 rw [hv] at h2
 simp only [tW,MVal.row] at h2
 obtain ⟨ok,ot,op,oa⟩:=o
 dsimp only at h2
 dsimp only at ho ⊢
 refine si [8,11,2000011,13,2000013,1000035,1000069,1000157] func44 ?_
 repeat'((conv=>whnf);first|(try(first|apply eN|apply eI|apply eC);conv=>whnf);apply sD;(focus(try intro hc;have hc0:=hc;(try simp only[aA]at hc);try refine aE ?_);first|exact gx h1|exact gx h2|exact vZ|exact aC)|(first|apply dG|apply kB);kernel_rfl|apply rR|apply rE|apply rH| ((apply cD)<;>intro hb<;>(try simp only [aA] at hb)<;>(try first|exact aM|((exfalso;simp at hb;omega);done))))
 all_goals try exact false
 exact aT
theorem zBp (nm:Str) (tbs:List Tb) (srows:List (List D)) (l:List MStep) (k:Int) (tx pa ta:Str) (over:Bool) (ns:List Str) (t:Str) (e p:Int) (h1:Sem Tryz.prog 64 [.str pa] (.tup [.agg [.sl 0 1 (ns.map fun s => [.str s]),.str t,.int .i64 e,.int .i64 p],.int .i64 0])) (hk:k=3) (ha:ns.length=0) (hb0:e ≠ 0) (hfl:∀ s ∈ l,s.flds.length≤1000000) (o:MVal) (hv:cS t e (cO p) l=some o) (ho:o.kind ≠ 2∧o.kind ≠ 1):
  Sem Tryz.prog 44 [.agg [.str nm,.sl 0 2 (tbs.map Tb.row),.sl 0 12 srows],.sl 0 12 (l.map MStep.row),.agg [.int .i64 k,.str tx,.str pa,.str ta],.bool over] (.tup [.agg [.int .i64 k,.str tx,.str pa,.str ta],.bool false,.bool false]):=by
 have h2:=fT l ns t e p hfl
 rw [hv] at h2
 simp only [tW,MVal.row] at h2
 obtain ⟨ok,ot,op,oa⟩:=o
 dsimp only at h2
 dsimp only at ho ⊢
 refine si [8,11,2000011,13,2000013,1000035,1000069,1000157] func44 ?_
 repeat'((conv=>whnf);first|(try(first|apply eN|apply eI|apply eC);conv=>whnf);apply sD;(focus(try intro hc;have hc0:=hc;(try simp only[aA]at hc);try refine aE ?_);first|exact gx h1|exact gx h2|exact vZ|exact aC)|(first|apply dG|apply kB);kernel_rfl|apply rR|apply rE|apply rH| ((apply cD)<;>intro hb<;>(try simp only [aA] at hb)<;>(try first|exact aM|((exfalso;simp at hb;omega);done))))
 all_goals try exact false
 exact aT
theorem zBq (nm:Str) (tbs:List Tb) (srows:List (List D)) (l:List MStep) (k:Int) (tx pa ta:Str) (over:Bool) (ns:List Str) (t:Str) (e p:Int) (h1:Sem Tryz.prog 64 [.str pa] (.tup [.agg [.sl 0 1 (ns.map fun s => [.str s]),.str t,.int .i64 e,.int .i64 p],.int .i64 0])) (hk:k=3) (ha:ns.length=0) (hb0:e ≠ 0) (hfl:∀ s ∈ l,s.flds.length≤1000000) (o:MVal) (hv:cS t e (cO p) l=some o) (ho:o.kind=1) (j:Nat) (tb:Tb) (hj:mK ta tbs 0=(j:Int)) (htb:tbs[j]?=some tb) (hn:tb.rows.length≤1000000):
  Sem Tryz.prog 44 [.agg [.str nm,.sl 0 2 (tbs.map Tb.row),.sl 0 12 srows],.sl 0 12 (l.map MStep.row),.agg [.int .i64 k,.str tx,.str pa,.str ta],.bool over] (.tup [.agg [.int .i64 1,.str (kQ (dZ o.text tb.rows) tx),.str [],.str []],.bool !(kQ (dZ o.text tb.rows) tx == []),.bool true]):=by
 have h2:=fT l ns t e p hfl
 rw [hv] at h2
 simp only [tW,MVal.row] at h2
 obtain ⟨ok,ot,op,oa⟩:=o
 dsimp only at h2
 dsimp only at ho ⊢
 have h3:=gI tbs ta
 rw [hj] at h3
 have h4:=zBf tb ot hn
 have hll:(tbs.map Tb.row).length=tbs.length:=List.length_map _
 generalize hr:dZ ot tb.rows=rv at h4 ⊢
 cases rv with
 |none=>
  simp only [xQ,kQ] at h4 ⊢
  refine si [8,11,2000011,13,2000013,1000035,1000069,1000157] func44 ?_
  repeat'((conv=>whnf);first|(try(first|apply eN|apply eI|apply eC);conv=>whnf);apply sD;(focus(try intro hc;have hc0:=hc;(try simp only[aA]at hc);try refine aE ?_);first|exact gx h1|exact gx h2|exact gx h3|exact gx h4|exact vZ|(exact aP htb rfl)|exact aC)|(first|apply dG|apply kB);kernel_rfl|apply rR|apply rE|apply rH| ((apply cD)<;>intro hb<;>(try simp only [aA] at hb)<;>(try first|exact aM|((exfalso;simp at hb;omega);done))))
  all_goals try exact false
  exact aT
 |some rt=>
 simp only [xQ,kQ] at h4 ⊢
 refine si [8,11,2000011,13,2000013,1000035,1000069,1000157] func44 ?_
 repeat'((conv=>whnf);first|(try(first|apply eN|apply eI|apply eC);conv=>whnf);apply sD;(focus(try intro hc;have hc0:=hc;(try simp only[aA]at hc);try refine aE ?_);first|exact gx h1|exact gx h2|exact gx h3|exact gx h4|exact vZ|(exact aP htb rfl)|exact aC)|(first|apply dG|apply kB);kernel_rfl|apply rR|apply rE|apply rH| ((apply cD)<;>intro hb<;>(try simp only [aA] at hb)<;>(try first|exact aM|((exfalso;simp at hb;omega);done))))
 all_goals try exact false
 exact aT
end Go.Proofs.YtnjgoldinaffgaaGreatDoor
namespace Go.Proofs.YtnjgoldinaffgaaGreatDoor
set_option linter.unusedSimpArgs false
set_option linter.unusedVariables false
open Go.RowKit
set_option maxRecDepth 100000
set_option maxHeartbeats 4000000
theorem zKS {f:Fld} (h:bW f.path=0):Sem Tryz.prog 64 [.str f.path] (.tup [.agg (iB f.path).1.row,.int .i64 0]):=by
 have e:vD f.path=((iB f.path).1,0):=by
  unfold bW at h
  unfold vD
  split at h
  ·cases h
  ·rename_i h2
   split at h
   ·rename_i h3
    rw [if_neg h2,if_pos h3]
   ·cases h
 have:=mU f.path
 rw [e] at this
 exact this
theorem wD (nm:Str) (tbs:List Tb) (ht:aW tbs=0) (srows:List (List D)) (l:List MStep) (hfl:∀ s ∈ l,s.flds.length≤1000000) (f:Fld) (hf:eF tbs f=0) (over:Bool):
  Sem Tryz.prog 44 [.agg [.str nm,.sl 0 2 (tbs.map Tb.row),.sl 0 12 srows],.sl 0 12 (l.map MStep.row),.agg f.vl.row,.bool over] (.tup [.agg (nM tbs l f.vl over).1.row,.bool (nM tbs l f.vl over).2.1,.bool (nM tbs l f.vl over).2.2]):=by
 obtain ⟨hk1,hk5,hkp,hkt⟩:=tO hf
 obtain ⟨_,_,k3⟩:=dO ht
 have hkd:f.vl.kind=f.kind∧f.vl.text=f.text∧f.vl.path=f.path∧f.vl.table=f.table:=⟨rfl,rfl,rfl,rfl⟩
 have hrow:f.vl.row = [.int .i64 f.kind,.str f.text,.str f.path,.str f.table]:=rfl
 unfold nM
 rw [hkd.1,hkd.2.1,hkd.2.2.1,hkd.2.2.2,hrow]
 by_cases h1:f.kind=1
 ·rw [if_pos h1]
  exact zBv nm tbs srows l f.kind f.text f.path f.table over h1
 ·rw [if_neg h1]
  have hw:=zKS (hkp h1)
  generalize iB f.path=w at hw ⊢
  obtain ⟨⟨ns,t,e,p⟩,wb⟩:=w
  unfold Wy.row at hw
  dsimp only at hw ⊢
  by_cases h2:ns ≠ []∨e=0∨f.kind=4∨f.kind=5
  ·rw [if_pos h2]
   refine zBu nm tbs srows l f.kind f.text f.path f.table over ns t e p hw h1 (h2.imp (fun h => ?_) id)
   exact fun h0=>h (List.eq_nil_of_length_eq_zero h0)
  ·rw [if_neg h2]
   have hns:ns.length=0:=by
    cases ns with
    |nil=>rfl
    |cons a b=>exact absurd (.inl (by simp)) h2
   have he:e ≠ 0:=fun h=>h2 (.inr (.inl h))
   have h23:2≤f.kind∧f.kind≤3:=⟨by omega,by
    have:=fun h=>h2 (.inr (.inr h))
    omega⟩
   cases hv:cS t e (cO p) l with
   |none=>exact zBt nm tbs srows l f.kind f.text f.path f.table over ns t e p hw h23 hns he hfl hv
   |some o=>
    dsimp only
    by_cases k2:f.kind=2
    ·rw [if_pos k2]
     exact zBs nm tbs srows l f.kind f.text f.path f.table over ns t e p hw k2 hns he hfl o hv
    ·rw [if_neg k2]
     have kk3:f.kind=3:=by omega
     by_cases o2:o.kind=2
     ·rw [if_pos o2]
      exact zBr nm tbs srows l f.kind f.text f.path f.table over ns t e p hw kk3 hns he hfl o hv o2
     ·rw [if_neg o2]
      by_cases o1:o.kind=1
      ·rw [if_pos o1]
       obtain ⟨j,tb,a1,a2,a3⟩:=pP (n:=f.table) tbs 0 (hkt kk3)
       have hrw:jU tbs f.table=tb.rows:=by unfold jU;rw [a3]
       rw [hrw]
       exact zBq nm tbs srows l f.kind f.text f.path f.table over ns t e p hw kk3 hns he hfl o hv o1 j tb (by rw [a1,Nat.zero_add]) a2 (by have:=(k3 tb (aK a2)).2;omega)
      ·rw [if_neg o1]
       exact zBp nm tbs srows l f.kind f.text f.path f.table over ns t e p hw kk3 hns he hfl o hv ⟨o2,o1⟩
theorem pY {tbs:List Tb} {s:MStep} (h:s.Good tbs):s.flds.length≤1000000:=by
 obtain ⟨k,t,fs,n,o,c,ss⟩:=s
 have h1:=(cQ h).1
 have h0:=rY h1
 show fs.length≤1000000
 have:=h0.k1
 have:=h0.k3
 by_cases k1:k=1
 ·have:=(h0.seg k1).2.2.2.2.2.1
  omega
 ·by_cases k2:k=2
  ·rw [(h0.grp k2).2.1];simp
  ·have k3:k=3:=by omega
   subst k3
   unfold dW at h1
   rw [if_neg (by decide)] at h1
   split at h1
   ·cases h1
   ·rename_i hf
    unfold gZ at hf
    rw [if_neg (by decide),if_neg (by decide)] at hf
    simp at hf
    have:=hf.2.1
    simp [this]
open _root_.Go.Proofs.Tryz
theorem zHk {α:Type} {key:α→Str} {l:List α} {n:Str} {i j:Nat} {p:α} (hr:bU key l) (H:Halves key l n i i) (hp:l[j]?=some p) (hn:key p=n):i=j:=by
 have hj:=(bC hp)
 rcases Nat.lt_trichotomy i j with h|h|h
 ·have hq:=List.getElem?_eq_getElem (l:=l) (i:=i) (by omega)
  have h1:=lY hr hq hp h
  rw [hn,H.high i _ (Nat.le_refl _) hq] at h1
  cases h1
 ·exact h
 ·have h1:=H.low j p h hp
  rw [hn,cH] at h1
  cases h1
theorem zAT {s:Str}:∀ {l:List (Str × Str)} {i:Nat} {r:Str × Str},bU Prod.fst l→l[i]?=some r→r.1=s→dZ s l=some r.2
 |[],i,r,_,h,_=>by simp at h
 |a::l,i,r,hr,h,hn=>by
  unfold dZ
  have hp:=List.pairwise_cons.1 hr
  cases i with
  |zero=>
   cases h
   rw [if_pos hn]
  |succ i=>
   have h2:l[i]?=some r:=by simpa using h
   have h3:=hp.1 r (aK h2)
   rw [if_neg (fun e=>by rw [e,hn,cH] at h3;cases h3)]
   exact zAT hp.2 h2 hn
theorem xP {s:Str}:∀ {l:List (Str × Str)},rJ Prod.fst l s=false→dZ s l=none
 |[],_=>rfl
 |a::l,h=>by
  unfold rJ at h
  rw [List.any_cons,Bool.or_eq_false_iff] at h
  unfold dZ
  rw [if_neg (by simpa using h.1)]
  exact xP h.2
theorem zM2{p:Prop}(h:p:=by first|(refine gx (kM ?_ ?_ ?_ ?_ ?_ ?_)<;>exact pre)|(refine gx (uW ?_ ?_ ?_ ?_ ?_ ?_)<;>exact pre)):p:=h
theorem rF (tbs:List Tb) (n s:Str) (hl:tbs.length≤1000000) (hr:bU Tb.name tbs) (j:Nat) (t:Tb) (hj:tbs[j]?=some t) (hn:t.name=n) (htl:t.rows.length≤1000000) (htr:bU Prod.fst t.rows):Sem Tryz.prog 158 [.sl 0 2 (tbs.map Tb.row),.str n,.str s] (.tup [.str (xQ (dZ s t.rows)).1,.bool (xQ (dZ s t.rows)).2]):=by
 obtain ⟨i,hi⟩:=nB (n:=n) hr tbs.length 0 tbs.length (by omega) (Halves.start Tb.name tbs n)
 have hij:=zHk hr hi hj hn
 subst hij
 have h1:=kM tbs n hl hr i hi
 obtain ⟨k,hk⟩:=nB (n:=s) htr t.rows.length 0 t.rows.length (by omega) (Halves.start Prod.fst t.rows s)
 have h2:=uW t.rows s htl htr k hk
 have hkl:=hk.lj
 have hlt:=(bC hj)
 generalize rJ Tb.name tbs n=b1 at h1
 cases hb2:rJ Prod.fst t.rows s with
 |false=>
  rw [hb2] at h2
  rw [xP hb2]
  unfold xQ
  dsimp only
  refine si [1000035,1000069,1000116,1000157] func158 ?_
  repeat'((conv=>whnf);first|(try(first|apply eN|apply eI|apply eC);conv=>whnf);apply sD;(focus first|exact gx h1|exact gx h2|exact zM2|(exact aP hj rfl)|exact bV)|apply rR|apply rE|apply rH| (apply cD<;>intro hb<;>(try simp only[aA]at hb)<;>try exact aM))
  all_goals try exact false
  exact aT
 |true=>
  rw [hb2] at h2
  have hkt:k < t.rows.length:=by
   rcases Nat.lt_or_ge k t.rows.length with h|h
   ·exact h
   ·rw [hk.none h] at hb2;cases hb2
  obtain ⟨r,hr1⟩:∃ r,t.rows[k]?=some r:=⟨t.rows[k],List.getElem?_eq_getElem hkt⟩
  have hr2:r.1=s:=by
   have:=hk.some htr hr1
   rw [hb2] at this
   exact of_decide_eq_true this.symm
  rw [zAT htr hr1 hr2]
  unfold xQ
  dsimp only
  refine si [1000035,1000069,1000116,1000157] func158 ?_
  repeat'((conv=>whnf);first|(try(first|apply eN|apply eI|apply eC);conv=>whnf);apply sD;(focus first|exact gx h1|exact gx h2|exact zM2|(exact aP hj rfl)|(exact aP hr1 rfl)|exact bV)|apply rR|apply rE|apply rH| (apply cD<;>intro hb<;>(try simp only[aA]at hb)<;>try exact aM))
  all_goals try exact false
  exact aT
theorem jS (tbs:List Tb) (v o:MVal) (hl:tbs.length≤1000000) (hr:bU Tb.name tbs) (j:Nat) (t:Tb) (hj:tbs[j]?=some t) (hn:t.name=v.table) (htl:t.rows.length≤1000000) (htr:bU Prod.fst t.rows) (hrw:jU tbs v.table=t.rows):SemO Tryz.prog 116 (.obj [.sl 0 2 (tbs.map Tb.row)]) [.agg v.row,.agg o.row] (.tup [.agg (vG tbs v o).1.row,.bool (vG tbs v o).2.1,.int .i64 (vG tbs v o).2.2]) (some (.obj [.sl 0 2 (tbs.map Tb.row)])):=by
 have h1:=rF tbs v.table o.text hl hr j t hj hn htl htr
 obtain ⟨vk,vt,vp,va⟩:=v
 obtain ⟨ok,ot,op,oa⟩:=o
 unfold vG
 dsimp only at h1 hrw hn ⊢
 rw [hrw]
 have hq:∀ q:MVal × Bool × Int,q=(if ok=2 then (⟨vk,vt,op,va⟩,true,0) else if ok=1 then (⟨1,kQ (dZ ot t.rows) vt,[],[]⟩,!(kQ (dZ ot t.rows) vt == []),0) else (⟨0,[],[],[]⟩,false,11))→
   SemO Tryz.prog 116 (.obj [.sl 0 2 (tbs.map Tb.row)]) [.agg [.int .i64 vk,.str vt,.str vp,.str va],.agg [.int .i64 ok,.str ot,.str op,.str oa]] (.tup [.agg [.int .i64 q.1.kind,.str q.1.text,.str q.1.path,.str q.1.table],.bool q.2.1,.int .i64 q.2.2]) (some (.obj [.sl 0 2 (tbs.map Tb.row)])):=by
  intro q hq
  cases hx:dZ ot t.rows with
  |none=>
   rw [hx] at h1 hq
   unfold xQ at h1
   unfold kQ at hq
   dsimp only at h1 hq
   refine sO [0,4,6,1000035,1000069,1000116,1000157] func116 ?_
   repeat'((conv=>whnf);first|(try(first|apply eN|apply eI|apply eC);conv=>whnf);apply sD;(focus first|exact gx h1|(refine gx (rF ?_ ?_ ?_ ?_ ?_ ?_ ?_ ?_ ?_ ?_ ?_)<;>exact pre)|exact bV)|(first|apply dG|apply kB);kernel_rfl|apply rR|apply rE|apply rH| (apply cD<;>intro hb<;>(try simp only[aA]at hb)<;>try exact aM))
   all_goals try exact false
   ·rw [if_pos hb] at hq
    subst hq
    exact aT
   ·have h2:¬ ok=2:=by omega
    have h3:ok=1:=by omega
    rw [if_neg h2,if_pos h3] at hq
    subst hq
    exact aT
   ·have h2:¬ ok=2:=by omega
    rw [if_neg h2,if_neg hb] at hq
    subst hq
    exact aT
  |some x=>
   rw [hx] at h1 hq
   unfold xQ at h1
   unfold kQ at hq
   dsimp only at h1 hq
   refine sO [0,4,6,1000035,1000069,1000116,1000157] func116 ?_
   repeat'((conv=>whnf);first|(try(first|apply eN|apply eI|apply eC);conv=>whnf);apply sD;(focus first|exact gx h1|(refine gx (rF ?_ ?_ ?_ ?_ ?_ ?_ ?_ ?_ ?_ ?_ ?_)<;>exact pre)|exact bV)|(first|apply dG|apply kB);kernel_rfl|apply rR|apply rE|apply rH| (apply cD<;>intro hb<;>(try simp only[aA]at hb)<;>try exact aM))
   all_goals try exact false
   ·rw [if_pos hb] at hq
    subst hq
    exact aT
   ·have h2:¬ ok=2:=by omega
    have h3:ok=1:=by omega
    rw [if_neg h2,if_pos h3] at hq
    subst hq
    exact aT
   ·have h2:¬ ok=2:=by omega
    rw [if_neg h2,if_neg hb] at hq
    subst hq
    exact aT
 exact hq _ rfl
set_option maxHeartbeats 40000000
theorem zIr {p:Str} (h:bW p=0):p.length≤1000:=by
 unfold bW at h
 split at h
 ·cases h
 ·omega
theorem zBm{p:Prop}(h:p:=by first|(refine gx (wL ?_ ?_)<;>exact pre)|(refine gx (xB ?_ ?_ ?_)<;>exact pre)|(refine gx (xA ?_ ?_ ?_ ?_ ?_ ?_)<;>exact pre)|(refine gx (zBA ?_ ?_ ?_ ?_ ?_ ?_)<;>exact pre)|(refine gx (uQ ?_ ?_ ?_ ?_ ?_ ?_)<;>exact pre)):p:=h
theorem oM (tbs:List Tb) (ht:aW tbs=0) (inn:List MStep) (hfl:∀ s ∈ inn,s.flds.length≤1000000) (within:Bool) (f:Fld) (hf:eF tbs f=0):
  SemO Tryz.prog 70 (.obj [.sl 0 2 (tbs.map Tb.row)]) [.agg f.vl.row,.sl 0 12 (inn.map MStep.row),.bool within] (.tup [.agg (iC tbs f.vl inn within).1.row,.bool (iC tbs f.vl inn within).2.1,.int .i64 (iC tbs f.vl inn within).2.2]) (some (.obj [.sl 0 2 (tbs.map Tb.row)])):=by
 obtain ⟨hk1,hk5,hkp,hkt⟩:=tO hf
 obtain ⟨k1',k2',k3'⟩:=dO ht
 obtain ⟨fe,fp,k,tx,pa,ta⟩:=f
 have hkd:(Fld.mk fe fp k tx pa ta).vl=⟨k,tx,pa,ta⟩:=rfl
 rw [hkd]
 dsimp only at hk1 hk5 hkp hkt
 have hq:∀ q:MVal × Bool × Int,q=iC tbs ⟨k,tx,pa,ta⟩ inn within→SemO Tryz.prog 70 (.obj [.sl 0 2 (tbs.map Tb.row)]) [.agg [.int .i64 k,.str tx,.str pa,.str ta],.sl 0 12 (inn.map MStep.row),.bool within] (.tup [.agg [.int .i64 q.1.kind,.str q.1.text,.str q.1.path,.str q.1.table],.bool q.2.1,.int .i64 q.2.2]) (some (.obj [.sl 0 2 (tbs.map Tb.row)])):=by
  intro q hq
  unfold iC at hq
  dsimp only at hq
  by_cases h1:k=1
  ·rw [if_pos h1] at hq
   refine sO [0,8,11,2000011,13,2000013,1000035,1000069,1000070,1000116,1000157] func70 ?_
   repeat'((conv=>whnf);first|(try(first|apply eN|apply eI|apply eC);conv=>whnf);apply sD;(focus(try intro hc;have hc0:=hc;(try simp only[aA]at hc);try refine aE ?_);first|exact zBm|exact aC)|((with_reducible apply CallO.go);(conv=>whnf);apply sD;(focus first|(apply aU (jS _ _ _ _ _ _ _ _ _ _ _ _);all_goals exact eX)))|apply rR|apply rE|apply rH| (apply cD<;>intro hb<;>(try simp only[aA]at hb)<;>try exact aM))
   all_goals try exact false
   ·rw [if_pos hb] at hq
    subst hq
    exact aT
   ·rw [if_neg (by rw [hb];decide)] at hq
    subst hq
    exact aT
  ·rw [if_neg h1] at hq
   by_cases h45:k=4∨k=5
   ·rw [if_pos h45] at hq
    subst hq
    refine sO [0,8,11,2000011,13,2000013,1000035,1000069,1000070,1000116,1000157] func70 ?_
    repeat'((conv=>whnf);first|(try(first|apply eN|apply eI|apply eC);conv=>whnf);apply sD;(focus(try intro hc;have hc0:=hc;(try simp only[aA]at hc);try refine aE ?_);first|exact zBm|exact aC)|((with_reducible apply CallO.go);(conv=>whnf);apply sD;(focus first|(apply aU (jS _ _ _ _ _ _ _ _ _ _ _ _);all_goals exact eX)))|apply rR|apply rE|apply rH| (apply cD<;>intro hb<;>(try simp only[aA]at hb)<;>try exact aM))
    all_goals try exact false
    ·exact aT
    ·exact aT
   ·rw [if_neg h45] at hq
    have hw:=wL pa (zIr (hkp h1))
    generalize iB pa=w at hw hq
    obtain ⟨⟨ns,t,e,p⟩,wb⟩:=w
    unfold Wy.row at hw
    dsimp only at hw hq
    have hns:(ns.map fun s => [D.str s]).length=ns.length:=List.length_map _
    by_cases h2:ns ≠ []∨e=0
    ·rw [if_pos h2] at hq
     subst hq
     have h2':ns.length ≠ 0∨e=0:=h2.imp (fun h h0=>h (List.eq_nil_of_length_eq_zero h0)) id
     refine sO [0,8,11,2000011,13,2000013,1000035,1000069,1000070,1000116,1000157] func70 ?_
     repeat'((conv=>whnf);first|(try(first|apply eN|apply eI|apply eC);conv=>whnf);apply sD;(focus(try intro hc;have hc0:=hc;(try simp only[aA]at hc);try refine aE ?_);first|exact gx hw|exact zBm|exact aC)|((with_reducible apply CallO.go);(conv=>whnf);apply sD;(focus first|(apply aU (jS _ _ _ _ _ _ _ _ _ _ _ _);all_goals exact eX)))|apply rR|apply rE|apply rH| (apply cD<;>intro hb<;>(try simp only[aA]at hb)<;>try exact aM))
     all_goals try exact false
     exact aT
    ·rw [if_neg h2] at hq
     have hn0:ns.length=0:=by
      cases ns with
      |nil=>rfl
      |cons a b=>exact absurd (.inl (by simp)) h2
     have he0:e ≠ 0:=fun h=>h2 (.inr h)
     have hv:=uQ inn ns t e p hfl
     cases hva:cS t e (cO p) inn with
     |none=>
      rw [hva] at hv hq
      simp only [tW,zV,MVal.row] at hv
      dsimp only at hq
      subst hq
      refine sO [0,8,11,2000011,13,2000013,1000035,1000069,1000070,1000116,1000157] func70 ?_
      repeat'((conv=>whnf);first|(try(first|apply eN|apply eI|apply eC);conv=>whnf);apply sD;(focus(try intro hc;have hc0:=hc;(try simp only[aA]at hc);try refine aE ?_);first|exact gx hw|exact gx hv|exact zBm|exact aC)|((with_reducible apply CallO.go);(conv=>whnf);apply sD;(focus first|(apply aU (jS _ _ _ _ _ _ _ _ _ _ _ _);all_goals exact eX)))|apply rR|apply rE|apply rH| (apply cD<;>intro hb<;>(try simp only[aA]at hb)<;>try exact aM))
      all_goals try exact false
      exact aT
     |some o=>
      rw [hva] at hv hq
      simp only [tW,MVal.row] at hv
      dsimp only at hq
      by_cases k2:k=2
      ·rw [if_pos k2] at hq
       subst hq
       obtain ⟨ok,ot,op,oa⟩:=o
       dsimp only at hv
       refine sO [0,8,11,2000011,13,2000013,1000035,1000069,1000070,1000116,1000157] func70 ?_
       repeat'((conv=>whnf);first|(try(first|apply eN|apply eI|apply eC);conv=>whnf);apply sD;(focus(try intro hc;have hc0:=hc;(try simp only[aA]at hc);try refine aE ?_);first|exact gx hw|exact gx hv|exact zBm|exact aC)|((with_reducible apply CallO.go);(conv=>whnf);apply sD;(focus first|(apply aU (jS _ _ _ _ _ _ _ _ _ _ _ _);all_goals exact eX)))|apply rR|apply rE|apply rH| (apply cD<;>intro hb<;>(try simp only[aA]at hb)<;>try exact aM))
       all_goals try exact false
       exact aT
      ·rw [if_neg k2] at hq
       have k3:k=3:=by omega
       obtain ⟨j,tb,a1,a2,a3⟩:=pP (n:=ta) tbs 0 (hkt k3)
       have hrw:jU tbs ta=tb.rows:=by unfold jU;rw [a3]
       have hj:=jS tbs ⟨k,tx,pa,ta⟩ o (by omega) k2' j tb a2 (dN a3).2 (by have:=(k3' tb (aK a2)).2;omega) (uX none tb.rows (k3' tb (aK a2)).1).1 hrw
       rw [← hq] at hj
       obtain ⟨ok,ot,op,oa⟩:=o
       simp only [MVal.row] at hj
       dsimp only at hv
       clear hq hva hrw
       refine sO [0,8,11,2000011,13,2000013,1000035,1000069,1000070,1000116,1000157] func70 ?_
       repeat'((conv=>whnf);first|(try(first|apply eN|apply eI|apply eC);conv=>whnf);apply sD;(focus(try intro hc;have hc0:=hc;(try simp only[aA]at hc);try refine aE ?_);first|exact gx hw|exact gx hv|exact zBm|exact aC)|((with_reducible apply CallO.go);(conv=>whnf);apply sD;(focus first|(apply aU (hj);all_goals exact eX)))|apply rR|apply rE|apply rH| (apply cD<;>intro hb<;>(try simp only[aA]at hb)<;>try exact aM))
       all_goals try exact false
       exact aT
 exact hq _ rfl
end Go.Proofs.YtnjgoldinaffgaaGreatDoor
namespace Go.Proofs.YtnjgoldinaffgaaGreatDoor
set_option linter.unusedSimpArgs false
set_option linter.unusedVariables false
open Go.RowKit
set_option maxRecDepth 100000
theorem zLJ {P:Program} (ts:List Nat) {c:Code} {fr:List D} {Q:Exit→List D→Prop} (h:aN (ts.foldl (fun fr t=>frz1 fr (.tmp t)) fr) fun fr=>HT P c fr Q):HT P c fr Q:=by
 rw [aD] at h
 refine ⟨fun S w a hF Q' hQ => ?_⟩
 obtain ⟨S1,t1,h1⟩:=eK (fun S fr t h=>dV h (.tmp t)) ts _ _ hF
 exact h.h S1 w a h1 Q' fun e fr' S' w' a' k t f=>hQ e fr' S' w' a' k (t1.trans t) f
inductive MStep.Slim:MStep→Prop where
 |mk {k:Int} {t:Str} {fs:List Fld} {n o:Str} {c:Cond} {ss:List MStep} (h:ss.length≤300) (hs:∀ s ∈ ss,s.Slim):(MStep.mk k t fs n o c ss).Slim
theorem tU {s:MStep} (h:s.Slim):s.kids.length≤300∧∀ x ∈ s.kids,x.Slim:=by
 cases h with|mk h hs=>exact ⟨h,hs⟩
theorem uA {tbs:List Tb} {d:Int}:∀ (l:List MStep) (m:Int),m≤300→(MStep.chks tbs l d m).2=0→m+l.length≤300
 |[],m,h,_=>by simpa using h
 |c::l,m,h,he=>by
  rw [show c::l=(c::l).drop 0 from rfl,oE (i:=0) rfl] at he
  split at he
  ·rename_i h1;exact absurd he h1
  ·rename_i h1
   obtain ⟨h2,h3⟩:=sV tbs c d m h
   have h4:=h3 (by simpa using h1)
   have:=uA l _ h4 (by simpa using he)
   simp only [List.length_cons]
   omega
theorem rC {tbs:List Tb} {d:Int}:∀ (l:List MStep),(∀ s ∈ l,∀ d m,0≤m→m≤300→(s.chk tbs d m).2=0→s.Slim)→∀ m,0≤m→m≤300→(MStep.chks tbs l d m).2=0→∀ s ∈ l,s.Slim
 |[],_,_,_,_,_=>fun s h=>by cases h
 |c::l,hc,m,h0,hm,h=>by
  rw [show c::l=(c::l).drop 0 from rfl,oE (i:=0) rfl] at h
  split at h
  ·rename_i he;exact absurd h he
  ·rename_i he
   have he:(c.chk tbs d m).2=0:=by simpa using he
   intro s hs
   rcases List.mem_cons.1 hs with rfl|hs
   ·exact hc s (by simp) d m h0 hm he
   ·exact rC l (fun x hx=>hc x (by simp [hx])) _ (by have:=(sV tbs c d m hm).1;omega) ((sV tbs c d m hm).2 he) h s hs
theorem zG9 (tbs:List Tb) (s:MStep):∀ d m,0≤m→m≤300→(s.chk tbs d m).2=0→s.Slim:=by
 induction s using MStep.ind with
 |h k t fs n o c ss ih=>
  intro d m h0 hm h
  rw [sU] at h
  split at h
  ·cases h
  ·rename_i hc
   split at h
   ·rename_i he;exact absurd h he
   ·have:=uA ss (m+1) (by omega) h
    exact .mk (by omega) (rC ss (fun s hs d m=>ih s hs d m) _ (by omega) (by omega) h)
theorem oZ {m:Mp} (h:m.err=0):m.steps.length≤300∧∀ s ∈ m.steps,s.Slim:=by
 have h1:=(uH h).2.2.1
 have:=uA m.steps 0 (by omega) h1
 exact ⟨by omega,rC m.steps (fun s _ d k=>zG9 m.tables s d k) 0 (by omega) (by omega) h1⟩
open _root_.Go.Proofs.Tryz
set_option maxHeartbeats 4000000
theorem zAz {n:Str}:∀ (l:List Tb) (i:Nat),cZ n l=none→mK n l i = -1
 |[],i,_=>rfl
 |t::l,i,h=>by
  unfold cZ at h
  unfold mK
  split at h
  ·cases h
  ·rename_i e
   rw [if_neg e]
   exact zAz l (i+1) h
theorem zCl {n:Str} {o:Tb}:∀ {l:List Tb},cZ n l=some o→iD l n=true
 |[],h=>by cases h
 |t::l,h=>by
  unfold cZ at h
  unfold iD
  rw [List.any_cons]
  split at h
  ·rename_i e
   simp [e]
  ·have:=zCl h
   unfold iD at this
   rw [this,Bool.or_true]
theorem zKI {b out:List Tb} {i:Nat} {t:Tb} (h:b[i]?=some t):jG out (b.drop i)=match cZ t.name out with
  |some o=>if o.rows=t.rows then jG out (b.drop (i+1)) else none
  |none=>jG (wI t out) (b.drop (i+1)):=by
 rw [List.drop_eq_getElem_cons (bC h),(List.getElem?_eq_some_iff.1 h).2,jG]
 rfl
theorem zDR{p:Prop}(h:p:=by first|(refine gx (gI ?_ ?_)<;>exact pre)|(refine gx (eW ?_ ?_ ?_)<;>exact pre)):p:=h
theorem pI (a b:List Tb) (ha:a.length≤1000) (hb9:b.length≤1000) (hbr:∀ t ∈ b,t.rows.length≤1000000) (har:∀ t ∈ a,t.rows.length≤1000000):Sem Tryz.prog 18 [.sl 0 2 (a.map Tb.row),.sl 0 2 (b.map Tb.row)] (.tup [.sl 0 2 ((fA a b).1.map Tb.row),.bool (fA a b).2]):=by
 have hla:(a.map Tb.row).length=a.length:=List.length_map _
 have hlb:(b.map Tb.row).length=b.length:=List.length_map _
 unfold fA
 generalize hr:jG a b=r
 refine si [1000035,1000069,1000157] func18 ?_
 repeat'((conv=>whnf);first|(try(first|apply eN|apply eI|apply eC);conv=>whnf);apply sD;(focus(try intro hc;have hc0:=hc;(try simp only[aA]at hc);try refine aE ?_);first|exact zDR|exact aC)|(first|apply dG|apply kB);kernel_rfl|apply rR|apply rE|apply rH| (apply cD<;>intro hb<;>(try simp only[aA]at hb)<;>try exact aM))
 all_goals try exact false
 refine aL (M:=fun t=>gF t [1000035,1000069,1000157]) hT hM (fun x:Nat × List Tb × Nat => [(7,.int .i64 x.1),(6,.sl x.2.2 2 (x.2.1.map Tb.row))]) (fun x=>x.1≤b.length∧jG x.2.1 (b.drop x.1)=r∧x.2.1.length≤a.length+x.1∧(∀ t ∈ x.2.1,t.rows.length≤1000000)∧(x.2.2=0∨x.2.2=2)) (fun x=>b.length - x.1) ((0,a,2)) ?_ ?_ ?_
 ·exact aV
 ·exact ⟨Nat.zero_le _,hr,by simp,har,.inr rfl⟩
 ·rintro ⟨i,out,m⟩ ⟨hi,hv,hn,hor,hm⟩
  dsimp only at hi hv hn hor hm ⊢
  have hlo:(out.map Tb.row).length=out.length:=List.length_map _
  cases hx:b[i]? with
  |none=>
   have hm9:=List.getElem?_eq_none_iff.1 hx
   rw [List.drop_of_length_le hm9,jG] at hv
   subst hv
   rcases hm with rfl|rfl
   all_goals
    repeat'((conv=>whnf);first|(try(first|apply eN|apply eI|apply eC);conv=>whnf);apply sD;(focus(try intro hc;have hc0:=hc;(try simp only[aA]at hc);try refine aE ?_);first|exact zDR|exact aC)|(first|apply dG|apply kB);kernel_rfl|apply rR|apply rE|apply rH| (apply cD<;>intro hb<;>(try simp only[aA]at hb)<;>try exact aM))
    all_goals try exact false
    exact aT
  |some t=>
   have hlt:=(bC hx)
   have htr:=hbr t (aK hx)
   rw [zKI hx] at hv
   have h1:=gI out t.name
   cases hto:cZ t.name out with
   |some o=>
    rw [hto] at hv
    dsimp only at hv
    obtain ⟨j,o',a1,a2,a3⟩:=pP out 0 (zCl hto)
    rw [hto] at a3
    cases a3
    rw [a1,Nat.zero_add] at h1
    have h2:=eW o t (hor o (aK a2))
    have hon:=(dN hto).2
    have hjl:=(bC a2)
    rcases hm with rfl|rfl
    all_goals
     repeat'((conv=>whnf);first|(try(first|apply eN|apply eI|apply eC);conv=>whnf);apply sD;(focus(try intro hc;have hc0:=hc;(try simp only[aA]at hc);try refine aE ?_);first|exact gx h1|exact gx h2|exact zDR|(exact aP hx rfl)|(exact aP a2 rfl)|exact aC)|(first|apply dG|apply kB);kernel_rfl|apply rR|apply rE|apply rH| (apply cD<;>intro hb<;>(try simp only[aA]at hb)<;>try exact aM))
     all_goals try exact false
     ·rw [if_neg (fun h=>hb ⟨hon,h⟩)] at hv
      subst hv
      exact aT
     ·rw [if_pos hb.2] at hv
      refine ⟨(i+1,out,0),⟨by dsimp only;omega,hv,by dsimp only;omega,hor,.inl rfl⟩,by dsimp only;omega,?_⟩
      exact aV
   |none=>
    rw [hto] at hv
    dsimp only at hv
    rw [zAz out 0 hto] at h1
    rcases hm with rfl|rfl
    all_goals
     repeat'((conv=>whnf);first|(try(first|apply eN|apply eI|apply eC);conv=>whnf);apply sD;(focus(try intro hc;have hc0:=hc;(try simp only[aA]at hc);try refine aE ?_);first|exact gx h1|exact zDR|(exact aP hx rfl)|exact aC)|(first|apply dG|apply kB);kernel_rfl|apply rR|apply rE|apply rH| (apply cD<;>intro hb<;>(try simp only[aA]at hb)<;>try exact aM))
     all_goals try exact false
     refine zLJ [6] ?_
     conv=>whnf
     refine aL (M:=fun t=>gF t [1000035,1000069,1000157]) hT hM (fun k:Nat => [(8,.int .i64 k)]) (fun k=>k≤out.length∧mF t.name out k=mF t.name out out.length) (fun k=>k) (out.length) ?_ ?_ ?_
     ·exact aV
     ·exact ⟨Nat.le_refl _,rfl⟩
     ·rintro k ⟨hk,hik⟩
      obtain ⟨u,hu⟩:∃ u,0 < k→out[k - 1]?=some u:=by
       by_cases h:0 < k
       ·exact ⟨out[k - 1],fun _=>List.getElem?_eq_getElem (by omega)⟩
       ·exact ⟨t,fun h'=>absurd h' h⟩
      repeat'((conv=>whnf);first|(try(first|apply eN|apply eI|apply eC);conv=>whnf);apply sD;(focus(try intro hc;have hc0:=hc;(try simp only[aA]at hc);try refine aE ?_);first|exact zDR|(exact aP hx rfl)|(exact aP (hu (by omega)) (by omega))|exact aC)|(first|apply dG|apply kB);kernel_rfl|apply rR|apply rE|apply rH| (apply cD<;>intro hb<;>(try simp only[aA]at hb)<;>try exact aM))
      all_goals try exact false
      ·have hk0:0 < k:=by omega
       refine ⟨k - 1,⟨by omega,?_⟩,by omega,?_⟩
       ·rw [← hik]
        obtain ⟨k',rfl⟩:∃ k',k=k'+1:=⟨k - 1,by omega⟩
        have hu':out[k']?=some u:=hu (by omega)
        have hlu:Op.bytesLess t.name u.name=true:=by
         rcases kJ u.name t.name with h|h|h
         ·rw [hb.2.1] at h;cases h
         ·exact absurd h hb.2.2
         ·exact h
        rw [Nat.add_sub_cancel]
        conv=>rhs;unfold mF
        rw [hu']
        dsimp only
        rw [if_pos hlu]
       ·(conv=>whnf)
        refine ⟨?_,by rfl⟩
        repeat' ((conv=>whnf);first|exact bE|(exact cT (by omega))|exact aO|with_reducible apply dC)
      ·have hkk:mF t.name out k=k:=by
        cases k with
        |zero=>rfl
        |succ k'=>
         have hu':out[k']?=some u:=hu (by omega)
         have hlu:¬ Op.bytesLess t.name u.name=true:=by
          intro h
          rcases hb with h1|h1|h1
          ·omega
          ·have:=eU h h1
           rw [cH] at this
           cases this
          ·rw [h1,cH] at h
           cases h
         unfold mF
         rw [hu']
         dsimp only
         rw [if_neg hlu]
       have hI:wI t out=out.take k ++ [t]++out.drop k:=by unfold wI;rw [← hik,hkk]
       have htk:List.take out.length (out.map Tb.row)=out.map Tb.row:=List.take_of_length_le (by simp)
       have hlen:(wI t out).length=out.length+1:=by rw [hI];simp;omega
       refine ⟨(i+1,wI t out,2),⟨by dsimp only;omega,hv,by dsimp only;omega,fun x hx => ?_,.inr rfl⟩,by dsimp only;omega,?_⟩
       ·rcases sX.1 hx with rfl|h
        ·exact htr
        ·exact hor x h
       ·(conv=>whnf)
        refine ⟨?_,by rfl⟩
        repeat' ((conv=>whnf);first|exact bE|(exact zFc (by dsimp only;rw [hI];simp [hlo,Tb.row,htk]))|(exact cT (by omega))|exact aO|with_reducible apply dC)
def sZ:List (List Bool) := [[b0,b0,b0,b0,b0,b0,b0,b0,b0,b0,b0,b0],[b1,b0,b0,b0,b0,b0,b0,b0,b0,b0,b0,b0],[b1,b1,b0,b0,b0,b0,b0,b0,b0,b0,b0,b0],[b1,b1,b0,b0,b1,b0,b0,b0,b0,b0,b0,b0],[b1,b1,b0,b0,b1,b1,b0,b0,b0,b0,b0,b0],[b1,b1,b1,b0,b1,b1,b0,b0,b0,b0,b0,b0],[b1,b1,b0,b0,b1,b1,b1,b0,b0,b0,b0,b0],[b1,b1,b0,b0,b1,b1,b0,b0,b1,b0,b0,b0],[b1,b1,b0,b0,b1,b1,b0,b0,b0,b1,b0,b0],[b1,b1,b1,b1,b1,b1,b0,b0,b0,b0,b0,b0],[b1,b1,b1,b0,b1,b1,b1,b0,b0,b0,b0,b0],[b1,b1,b1,b0,b1,b1,b0,b0,b1,b0,b0,b0],[b1,b1,b1,b0,b1,b1,b0,b0,b0,b1,b0,b0],[b1,b1,b0,b0,b1,b1,b1,b1,b0,b0,b0,b0],[b1,b1,b0,b0,b1,b1,b1,b0,b1,b0,b0,b0],[b1,b1,b0,b0,b1,b1,b1,b0,b0,b1,b0,b0],[b1,b1,b0,b0,b1,b1,b0,b0,b1,b1,b0,b0],[b1,b1,b1,b1,b1,b1,b1,b0,b0,b0,b0,b0],[b1,b1,b1,b1,b1,b1,b0,b0,b1,b0,b0,b0],[b1,b1,b1,b1,b1,b1,b0,b0,b0,b1,b0,b0],[b1,b1,b1,b0,b1,b1,b1,b1,b0,b0,b0,b0],[b1,b1,b1,b0,b1,b1,b1,b0,b1,b0,b0,b0],[b1,b1,b1,b0,b1,b1,b1,b0,b0,b1,b0,b0],[b1,b1,b1,b0,b1,b1,b0,b0,b1,b1,b0,b0],[b1,b1,b0,b0,b1,b1,b1,b1,b1,b0,b0,b0],[b1,b1,b0,b0,b1,b1,b1,b1,b0,b1,b0,b0],[b1,b1,b0,b0,b1,b1,b1,b0,b1,b1,b0,b0],[b1,b1,b1,b1,b1,b1,b1,b1,b0,b0,b0,b0],[b1,b1,b1,b1,b1,b1,b1,b0,b1,b0,b0,b0],[b1,b1,b1,b1,b1,b1,b1,b0,b0,b1,b0,b0],[b1,b1,b1,b1,b1,b1,b0,b0,b1,b1,b0,b0],[b1,b1,b1,b0,b1,b1,b1,b1,b1,b0,b0,b0],[b1,b1,b1,b0,b1,b1,b1,b1,b0,b1,b0,b0],[b1,b1,b1,b0,b1,b1,b1,b0,b1,b1,b0,b0],[b1,b1,b0,b0,b1,b1,b1,b1,b1,b1,b0,b0],[b1,b1,b1,b1,b1,b1,b1,b1,b1,b0,b0,b0],[b1,b1,b1,b1,b1,b1,b1,b1,b0,b1,b0,b0],[b1,b1,b1,b1,b1,b1,b1,b0,b1,b1,b0,b0],[b1,b1,b1,b1,b1,b1,b0,b0,b1,b1,b1,b0],[b1,b1,b1,b0,b1,b1,b1,b1,b1,b1,b0,b0],[b1,b1,b1,b1,b1,b1,b1,b1,b1,b1,b0,b0],[b1,b1,b1,b1,b1,b1,b1,b0,b1,b1,b1,b0],[b1,b1,b1,b1,b1,b1,b1,b1,b1,b1,b1,b0],[b1,b1,b1,b1,b1,b1,b1,b1,b1,b1,b1,b1]]
def zAb (l:List MStep):Prop:=Sem Tryz.prog 19 [.sl 0 12 (l.map MStep.row),.sl 0 12 (l.map MStep.row)] (.bool true)
theorem zCx (l:List MStep) (h:∀ s ∈ l,zAb s.kids) (hfl:∀ s ∈ l,s.flds.length≤1000000):zAb l:=by
 unfold zAb
 refine gU 0 rfl rfl fun hl => ?_
 rw [List.length_map] at hl
 have hll:(l.map MStep.row).length=l.length:=List.length_map _
 refine si [6,2000006,7,2000007,5000006,1000035,1000069,1000157] func19 ?_
 repeat'((conv=>whnf);first|((with_reducible apply DrawI.at 20 sZ);exact rfl;kernel_rfl)|with_reducible apply ExE.go|((with_reducible apply EqF.mk);exact rfl)|with_reducible apply AndI.mk|with_reducible exact trivial|(try(first|apply eN|apply eI|apply eC);conv=>whnf);apply sD;(focus(try intro hc;have hc0:=hc;(try simp only[aA]at hc);try refine aE ?_);first|exact aC)|(first|apply dG|apply kB);kernel_rfl|apply rR|apply rE|apply rH| ((apply cD)<;>intro hb<;>(try simp only [aA] at hb)<;>(try first|exact aM|((exact absurd rfl hb);done))))
 all_goals try exact false
 refine aL (M:=fun t=>gF t [6,2000006,7,2000007,5000006,1000035,1000069,1000157]) hT hM (fun i:Nat => [(5,.int .i64 i)]) (fun i=>i≤l.length) (fun i=>l.length - i) (0) ?_ ?_ ?_
 ·exact aV
 ·exact Nat.zero_le _
 ·rintro i hi
  cases hx:l[i]? with
  |none=>
   have hm:=List.getElem?_eq_none_iff.1 hx
   repeat'((conv=>whnf);first|((with_reducible apply DrawI.at 20 sZ);exact rfl;kernel_rfl)|with_reducible apply ExE.go|((with_reducible apply EqF.mk);exact rfl)|with_reducible apply AndI.mk|with_reducible exact trivial|(try(first|apply eN|apply eI|apply eC);conv=>whnf);apply sD;(focus(try intro hc;have hc0:=hc;(try simp only[aA]at hc);try refine aE ?_);first|exact aC)|(first|apply dG|apply kB);kernel_rfl|apply rR|apply rE|apply rH| (apply cD<;>intro hb<;>(try simp only[aA]at hb)<;>try exact aM))
   all_goals try exact false
   exact aT
  |some s=>
   have hlt:=(bC hx)
   have ih:=h s (aK hx)
   have hf:=hfl s (aK hx)
   unfold zAb at ih
   obtain ⟨k,t,fs,n,o,c,ss⟩:=s
   have hcc:=zCw c c
   rw [(Cond.same_iff c c).2 rfl] at hcc
   obtain ⟨ck,cks,cp,cvs,clo,chi⟩:=c
   have hkk:(MStep.mk k t fs n o (.mk ck cks cp cvs clo chi) ss).kids=ss∧(MStep.mk k t fs n o (.mk ck cks cp cvs clo chi) ss).flds=fs:=⟨rfl,rfl⟩
   rw [hkk.1] at ih
   rw [hkk.2] at hf
   rw [Cond.row_mk] at hcc
   have hlf:(fs.map Fld.row).length=fs.length:=List.length_map _
   repeat'((conv=>whnf);first|((with_reducible apply DrawI.at 20 sZ);exact rfl;kernel_rfl)|with_reducible apply ExE.go|((with_reducible apply EqF.mk);exact rfl)|with_reducible apply AndI.mk|with_reducible exact trivial|(try(first|apply eN|apply eI|apply eC);conv=>whnf);apply sD;(focus(try intro hc;have hc0:=hc;(try simp only[aA]at hc);try refine aE ?_);first|exact gx hcc|exact gx ih|(exact bN hx rfl)|exact aC)|(first|apply dG|apply kB);kernel_rfl|apply rR|apply rE|apply rH| ((apply cD)<;>intro hb<;>(try simp only [aA] at hb)<;>(try first|exact aM|((exfalso;simp at hb;done);done))))
   all_goals try exact false
   refine aL (M:=fun t=>gF t [6,2000006,7,2000007,5000006,1000035,1000069,1000157]) hT hM (fun j:Nat => [(8,.int .i64 j)]) (fun j=>j≤fs.length) (fun j=>fs.length - j) (0) ?_ ?_ ?_
   ·exact aV
   ·exact Nat.zero_le _
   ·rintro j hj
    cases hy:fs[j]? with
    |none=>
     have hm:=List.getElem?_eq_none_iff.1 hy
     repeat'((conv=>whnf);first|((with_reducible apply DrawI.at 20 sZ);exact rfl;kernel_rfl)|with_reducible apply ExE.go|((with_reducible apply EqF.mk);exact rfl)|with_reducible apply AndI.mk|with_reducible exact trivial|(try(first|apply eN|apply eI|apply eC);conv=>whnf);apply sD;(focus(try intro hc;have hc0:=hc;(try simp only[aA]at hc);try refine aE ?_);first|exact aC)|(first|apply dG|apply kB);kernel_rfl|apply rR|apply rE|apply rH| (apply cD<;>intro hb<;>(try simp only[aA]at hb)<;>try exact aM))
     all_goals try exact false
     refine ⟨i+1,by omega,by omega,?_⟩
     exact aV
    |some f=>
     have hlt2:=(bC hy)
     repeat'((conv=>whnf);first|((with_reducible apply DrawI.at 20 sZ);exact rfl;kernel_rfl)|with_reducible apply ExE.go|((with_reducible apply EqF.mk);exact rfl)|with_reducible apply AndI.mk|with_reducible exact trivial|(try(first|apply eN|apply eI|apply eC);conv=>whnf);apply sD;(focus(try intro hc;have hc0:=hc;(try simp only[aA]at hc);try refine aE ?_);first|(exact jR hy rfl)|exact aC)|(first|apply dG|apply kB);kernel_rfl|apply rR|apply rE|apply rH| ((apply cD)<;>intro hb<;>(try simp only [aA] at hb)<;>(try first|exact aM|((exfalso;simp at hb;done);done))))
     all_goals try exact false
     refine ⟨j+1,by omega,by omega,?_⟩
     exact aV
theorem zAk (l:List MStep) (hg:∀ s ∈ l,s.Slim∧∃ tbs,s.Good tbs):zAb l:=by
 have key:∀ s:MStep,(s.Slim∧∃ tbs,s.Good tbs)→zAb s.kids:=by
  intro s
  induction s using MStep.ind with
  |h k t fs n o c ss ih=>
   rintro ⟨h1,tbs,h2⟩
   have h3:=(cQ h2).2
   have h4:=(tU h1).2
   exact zCx ss (fun s hs=>ih s hs ⟨h4 s hs,tbs,h3 s hs⟩) fun s hs=>pY (h3 s hs)
 exact zCx l (fun s hs=>key s (hg s hs)) fun s hs=>by
  obtain ⟨_,tbs,h⟩:=hg s hs
  exact pY h
theorem pN (m:Mp) (hg:∀ s ∈ m.steps,s.Slim∧∃ tbs,s.Good tbs) (ht:∀ t ∈ m.tables,t.rows.length≤1000000):Sem Tryz.prog 7 [.agg m.row,.agg m.row] (.bool true):=by
 have hs:=zAk m.steps hg
 unfold zAb at hs
 obtain ⟨nm,tbs,ss⟩:=m
 unfold Mp.row
 dsimp only at hs ht ⊢
 clear hg
 have hlt:(tbs.map Tb.row).length=tbs.length:=List.length_map _
 refine xN 0 1 rfl rfl rfl fun hl => ?_
 refine si [1000035,1000069,1000157] func7 ?_
 repeat'((conv=>whnf);first|(try(first|apply eN|apply eI|apply eC);conv=>whnf);apply sD;(focus(try intro hc;have hc0:=hc;(try simp only[aA]at hc);try refine aE ?_);first|exact gx hs|(refine gx (eW ?_ ?_ ?_)<;>exact pre)|exact aC)|(first|apply dG|apply kB);kernel_rfl|apply rR|apply rE|apply rH| ((apply cD)<;>intro hb<;>(try simp only [aA] at hb)<;>(try first|exact aM|((exfalso;simp at hb;done);done))))
 all_goals try exact false
 refine aL (M:=fun t=>gF t [1000035,1000069,1000157]) hT hM (fun i:Nat => [(5,.int .i64 i)]) (fun i=>i≤tbs.length) (fun i=>tbs.length - i) (0) ?_ ?_ ?_
 ·exact aV
 ·exact Nat.zero_le _
 ·rintro i hi
  cases hx:tbs[i]? with
  |none=>
   have hm:=List.getElem?_eq_none_iff.1 hx
   repeat'((conv=>whnf);first|(try(first|apply eN|apply eI|apply eC);conv=>whnf);apply sD;(focus(try intro hc;have hc0:=hc;(try simp only[aA]at hc);try refine aE ?_);first|(refine gx (eW ?_ ?_ ?_)<;>exact pre)|exact aC)|(first|apply dG|apply kB);kernel_rfl|apply rR|apply rE|apply rH| (apply cD<;>intro hb<;>(try simp only[aA]at hb)<;>try exact aM))
   all_goals try exact false
   exact aT
  |some t=>
   have hlt2:=(bC hx)
   have h1:=eW t t (ht t (aK hx))
   rw [decide_eq_true (And.intro rfl rfl)] at h1
   repeat'((conv=>whnf);first|(try(first|apply eN|apply eI|apply eC);conv=>whnf);apply sD;(focus(try intro hc;have hc0:=hc;(try simp only[aA]at hc);try refine aE ?_);first|exact gx h1|(refine gx (eW ?_ ?_ ?_)<;>exact pre)|(exact aP hx rfl)|exact aC)|(first|apply dG|apply kB);kernel_rfl|apply rR|apply rE|apply rH| ((apply cD)<;>intro hb<;>(try simp only [aA] at hb)<;>(try first|exact aM|((exfalso;simp at hb;done);done))))
   all_goals try exact false
   refine ⟨i+1,by omega,by omega,?_⟩
   exact aV
theorem qO (hF:zAd) (nm:Str) (tbs:List Tb) (srows:List (List D)) (k:Int) (t:Str) (fs:List Fld) (n o:Str) (c:Cond) (ss:List MStep) (hs:(MStep.mk k t fs n o c ss).Txt):Sem Tryz.prog 76 [.agg [.str nm,.sl 0 2 (tbs.map Tb.row),.sl 0 12 srows],.agg (MStep.mk k t fs n o c ss).row] (.int .i64 (dW tbs k t fs n o c ss.length)):=by
 obtain ⟨hst,hff,hsn,hso,hct,_⟩:jI t∧(∀ f ∈ fs,f.Txt)∧jI n∧jI o∧c.Txt∧∀ s ∈ ss,s.Txt:=by
  cases hs with|mk h1 h2 h3 h4 h5 h6=>exact ⟨h1,h2,h3,h4,h5,h6⟩
 clear hs
 obtain ⟨ck,cks,cp,cvs,clo,chi⟩:=c
 have h1:=fE k 1 3
 have h2:=fun h1 h3=>vR k t (fs.map Fld.row) n o ck cks cp cvs clo chi (ss.map MStep.row) h1 h3
 have h3:=mZ t hst
 have h4:=hF nm tbs srows fs hff
 have h5:=dE n hsn
 have h6:=gQ o
 have h7:=pF (.mk ck cks cp cvs clo chi) hct
 rw [Cond.row_mk] at h7
 rw [List.length_map,List.length_map] at h2
 rw [yF] at h6
 have he:dW tbs k t fs n o (.mk ck cks cp cvs clo chi) ss.length=if k < 1∨3 < k then 4 else if gZ k t fs.length n o ((Cond.mk ck cks cp cvs clo chi).same zeroM) ss.length=false then 3
  else if k=1 then lK tbs t fs else if k=2∧aR n=false then 5 else if k=2∧bH o ≠ 0 then bH o else if k=3∧(Cond.mk ck cks cp cvs clo chi).err ≠ 0 then (Cond.mk ck cks cp cvs clo chi).err else if ss.length=0 then 9 else 0:=rfl
 have hse:lK tbs t fs=if cA t=false then 5 else if fs.length=0 then 9 else if 30 < fs.length then 2 else eM tbs none fs:=rfl
 have hns:gZ k t fs.length n o ((Cond.mk ck cks cp cvs clo chi).same zeroM) ss.length=true→k=1→ss.length=0:=fun h h1=>by
  unfold gZ at h
  rw [if_pos h1] at h
  simp only [Bool.and_eq_true,decide_eq_true_eq] at h
  exact h.2
 rw [MStep.row_mk]
 generalize dW tbs k t fs n o (.mk ck cks cp cvs clo chi) ss.length=e at he ⊢
 generalize gZ k t fs.length n o ((Cond.mk ck cks cp cvs clo chi).same zeroM) ss.length=b1 at he h2 hns
 generalize (if fs.length=0 then (9:Int) else if 30 < fs.length then 2 else eM tbs none fs)=e1 at hse h4
 generalize lK tbs t fs=e4 at he hse
 generalize cA t=b3 at hse h3
 generalize aR n=b2 at he h5
 generalize bH o=e2 at he h6
 generalize (Cond.mk ck cks cp cvs clo chi).err=e3 at he h7
 have hll:(ss.map MStep.row).length=ss.length:=List.length_map _
 refine si [1000035,1000069,1000157] func76 ?_
 repeat'((conv=>whnf);first|(try(first|apply eN|apply eI|apply eC);conv=>whnf);apply sD;(focus first|exact gx h1|(refine gx (h2 (by omega) (by omega))<;>exact pre)|exact gx h3|exact gx h4|exact gx h5|exact gx h6|exact gx h7|(refine gx (fE ?_ ?_ ?_)<;>exact pre)|(refine gx (vR ?_ ?_ ?_ ?_ ?_ ?_ ?_ ?_ ?_ ?_ ?_ ?_ ?_ ?_)<;>exact pre)|(refine gx (mZ ?_ ?_)<;>exact pre)|(refine gx (dE ?_ ?_)<;>exact pre)|(refine gx (gQ ?_)<;>exact pre)|(refine gx (pF ?_ ?_)<;>exact pre)|exact bV)|apply rR|apply rE|apply rH| (apply cD<;>intro hb<;>(try simp only[aA]at hb)<;>try exact aM))
 all_goals try exact false
 all_goals (
  repeat' ((conv=>whnf);first|exact aI|with_reducible first|apply And.intro|apply oR|apply oN|apply dC)
  all_goals (conv=>whnf)
  refine aJ ?_
  clear h1 h2 h3 h4 h5 h6 h7
  subst he hse
  grind)
def zKM (nm:Str) (tbs:List Tb) (srows:List (List D)) (l:List MStep):Prop:=∀ d m:Int,0≤m→m≤300→0≤d→d≤1000→Sem Tryz.prog 43 [.agg [.str nm,.sl 0 2 (tbs.map Tb.row),.sl 0 12 srows],.sl 0 12 (l.map MStep.row),.int .i64 d,.int .i64 m] (.tup [.int .i64 (MStep.chks tbs l d m).1,.int .i64 (MStep.chks tbs l d m).2])
theorem zKw{p:Prop}(h:p:=by first|(refine gx (qO ?_ ?_ ?_ ?_ ?_ ?_ ?_ ?_ ?_ ?_ ?_ ?_)<;>exact pre)):p:=h
theorem zC7 (hF:zAd) (nm:Str) (tbs:List Tb) (srows:List (List D)) (l:List MStep) (hl:∀ s ∈ l,s.Txt) (h:∀ s ∈ l,zKM nm tbs srows s.kids):zKM nm tbs srows l:=by
 intro d m0 hm0 hm3 hd0 hd1
 generalize hr:MStep.chks tbs l d m0=r
 refine si [1000035,1000069,1000157] func43 ?_
 repeat'((conv=>whnf);first|(try(first|apply eN|apply eI|apply eC);conv=>whnf);apply sD;(focus(try intro hc;have hc0:=hc;(try simp only[aA]at hc);try refine aE ?_);first|exact zKw|exact aC)|(first|apply dG|apply kB);kernel_rfl|apply rR|apply rE|apply rH| (apply cD<;>intro hb<;>(try simp only[aA]at hb)<;>try exact aM))
 all_goals try exact false
 refine aL (M:=fun t=>gF t [1000035,1000069,1000157]) hT hM (fun x:Nat × Int => [(10,.int .i64 x.1),(3,.int .i64 x.2)]) (fun x=>x.1≤l.length∧m0+x.1≤x.2∧x.2≤300∧MStep.chks tbs (l.drop x.1) d x.2=r) (fun x=>l.length - x.1) ((0,m0)) ?_ ?_ ?_
 ·exact aV
 ·exact ⟨Nat.zero_le _,by dsimp only;omega,by dsimp only;omega,hr⟩
 ·rintro ⟨i,m⟩ ⟨hi,hm1,hm2,hv⟩
  dsimp only at hi hm1 hm2 hv ⊢
  cases hx:l[i]? with
  |none=>
   have hm:=List.getElem?_eq_none_iff.1 hx
   rw [List.drop_of_length_le hm,pU] at hv
   subst hv
   repeat'((conv=>whnf);first|(try(first|apply eN|apply eI|apply eC);conv=>whnf);apply sD;(focus(try intro hc;have hc0:=hc;(try simp only[aA]at hc);try refine aE ?_);first|exact zKw|exact aC)|(first|apply dG|apply kB);kernel_rfl|apply rR|apply rE|apply rH| (apply cD<;>intro hb<;>(try simp only[aA]at hb)<;>try exact aM))
   all_goals try exact false
   exact aT
  |some x=>
   have hlt:=(bC hx)
   obtain ⟨hb1,hb2⟩:=sV tbs x d m hm2
   have hmem:=aK hx
   have hxt:=hl x hmem
   have hk:=h x hmem
   rw [oE hx] at hv
   obtain ⟨k,t,fs,n,o,⟨ck,cks,cp,cvs,clo,chi⟩,ss⟩:=x
   have h1:=qO hF nm tbs srows k t fs n o (.mk ck cks cp cvs clo chi) ss hxt
   have h2:=fun (h:m+1≤300∧d≤6)=>hk (d+1) (m+1) (by omega) (by omega) (by omega) (by omega)
   rw [sU] at hv hb1 hb2
   rw [MStep.row_mk] at h1
   generalize dW tbs k t fs n o (.mk ck cks cp cvs clo chi) ss.length=e at h1 hv hb1 hb2
   have hkk:(MStep.mk k t fs n o (.mk ck cks cp cvs clo chi) ss).kids=ss:=rfl
   rw [hkk] at h2
   generalize MStep.chks tbs ss (d+1) (m+1)=y at h2 hv hb1 hb2
   obtain ⟨m2,e2⟩:=y
   dsimp only at hv h2 hb1 hb2
   clear hk hxt hmem h
   repeat'((conv=>whnf);first|(try(first|apply eN|apply eI|apply eC);conv=>whnf);apply sD;(focus(try intro hc;have hc0:=hc;(try simp only[aA]at hc);try refine aE ?_);first|(exact bN hx rfl)|exact gx h1|(refine gx (h2 (by omega))<;>exact pre)|exact zKw|exact aC)|(first|apply dG|apply kB);kernel_rfl|apply rR|apply rE|apply rH| (apply cD<;>intro hb<;>(try simp only[aA]at hb)<;>try exact aM))
   all_goals try exact false
   ·rw [if_pos (show 300 < m+1∨6 < d by omega)] at hv
    rw [if_pos (show (2:Int) ≠ 0 by decide)] at hv
    subst hv
    exact aT
   ·have hn:¬ (300 < m+1∨6 < d):=by omega
    have hne:e ≠ 0:=by omega
    rw [if_neg hn,if_pos hne] at hv
    rw [if_pos hne] at hv
    subst hv
    exact aT
   ·have hn:¬ (300 < m+1∨6 < d):=by omega
    have hne:¬ e ≠ 0:=by omega
    rw [if_neg hn,if_neg hne] at hv
    rw [if_pos (show e2 ≠ 0 by omega)] at hv
    subst hv
    exact aT
   ·have hn:¬ (300 < m+1∨6 < d):=by omega
    have hne:¬ e ≠ 0:=by omega
    rw [if_neg hn,if_neg hne] at hv hb1 hb2
    rw [if_neg (show ¬ e2 ≠ 0 by omega)] at hv
    dsimp only at hb1 hb2
    refine ⟨(i+1,m2),⟨by dsimp only;omega,by dsimp only;omega,by dsimp only;omega,hv⟩,by dsimp only;omega,?_⟩
    exact aV
theorem zEV (hF:zAd) (nm:Str) (tbs:List Tb) (srows:List (List D)) (s:MStep):s.Txt→zKM nm tbs srows s.kids:=by
 induction s using MStep.ind with
 |h k t fs n o c ss ih=>
  intro h
  have hs:∀ s ∈ ss,s.Txt:=by cases h with|mk h1 h2 h3 h4 h5 h6=>exact h6
  exact zC7 hF nm tbs srows ss hs fun s hm=>ih s hm (hs s hm)
theorem iT (hF:zAd) (m:Mp) (ht:m.Txt):Sem Tryz.prog 15 [.agg m.row] (.int .i64 m.err):=by
 obtain ⟨nm,tbs,steps⟩:=m
 have htn:=ht.name
 have htt:=ht.tables
 have hts:=ht.steps
 dsimp only at htn htt hts
 have h1:=dE nm htn
 have h2:=nK tbs htt
 have h3:=zC7 hF nm tbs (steps.map MStep.row) steps hts (fun s hs=>zEV hF nm tbs _ s (hts s hs)) 0 0 (by omega) (by omega) (by omega) (by omega)
 have hr:Mp.err ⟨nm,tbs,steps⟩=if aR nm=false then 5 else if aW tbs ≠ 0 then aW tbs else if (MStep.chks tbs steps 0 0).2 ≠ 0 then (MStep.chks tbs steps 0 0).2 else if steps.length=0 then 9 else 0:=rfl
 generalize Mp.err ⟨nm,tbs,steps⟩=r at hr ⊢
 generalize aR nm=b1 at h1 hr
 generalize MStep.chks tbs steps 0 0=y at hr h3
 obtain ⟨y1,y2⟩:=y
 dsimp only at hr h3
 generalize aW tbs=te at hr h2
 unfold Mp.row
 dsimp only
 have hll:(tbs.map Tb.row).length=tbs.length:=List.length_map _
 have hls:(steps.map MStep.row).length=steps.length:=List.length_map _
 refine si [1000035,1000069,1000157] func15 ?_
 repeat'((conv=>whnf);first|(try(first|apply eN|apply eI|apply eC);conv=>whnf);apply sD;(focus first|exact gx h1|exact gx h2|exact gx h3|(refine gx (dE ?_ ?_)<;>exact pre)|(refine gx (nK ?_ ?_)<;>exact pre)|exact bV)|apply rR|apply rE|apply rH| (apply cD<;>intro hb<;>(try simp only[aA]at hb)<;>try exact aM))
 all_goals try exact false
 all_goals (
  repeat' ((conv=>whnf);first|exact aI|with_reducible first|apply And.intro|apply oR|apply oN|apply dC)
  all_goals (conv=>whnf)
  refine aJ ?_
  clear h1 h2 h3 ht htn htt hts
  subst hr
  grind)
end Go.Proofs.YtnjgoldinaffgaaGreatDoor
