/- Two maps, one behind the other: what the reference makes of them (walk). Two maps, one behind the other: the law, given the maps' data. -/
import Derived.Test.YtnjgoldinaffgaaGreatDoorY35
import Derived.Test.YtnjgoldinaffgaaGreatDoorY33
import Derived.Test.YtnjgoldinaffgaaGreatDoorY34
namespace Go.Proofs.YtnjgoldinaffgaaGreatDoor
open _root_.Go.Proofs.Tryz
set_option linter.unusedSimpArgs false
set_option linter.unusedVariables false
open Go.RowKit
set_option maxRecDepth 100000
set_option maxHeartbeats 40000000
theorem zB2:zAd:=fun nm tbs rows fs hf=>wK nm tbs rows fs hf
theorem zHy (nm:Str) (tbs:List Tb) (ht:aW tbs=0) (srows:List (List D)) (ss:List MStep) (hl:ss.length≤300) (hg:∀ s ∈ ss,s.Good tbs∧s.Slim):zCe nm tbs srows ss:=by
 have key:∀ s:MStep,s.Good tbs∧s.Slim→zCe nm tbs srows s.kids:=by
  intro s
  induction s using MStep.ind with
  |h k t fs n o c ss ih=>
   rintro ⟨h1,h2⟩
   have h3:=(cQ h1).2
   have h4:=tU h2
   exact zDZ nm tbs ht srows ss h4.1 h3 fun s hs=>ih s hs ⟨h3 s hs,h4.2 s hs⟩
 exact zDZ nm tbs ht srows ss hl (fun s hs=>(hg s hs).1) fun s hs=>key s (hg s hs)
theorem zGG (l:List MStep):rS l:=by
 have key:∀ s:MStep,rS s.kids:=by
  intro s
  induction s using MStep.ind with
  |h k t fs n o c ss ih=>exact zCJ ss ih
 exact zCJ l fun s _=>key s
theorem zIw {a b:Mp} (ha:a.Txt) (hb:b.Txt) (ea:a.err=0) (eb:b.err=0) (h1:(aZ b.tables b.steps a.steps false []).2=true) (h2:(fA a.tables b.tables).2=true):(Mp.mk b.name (fA a.tables b.tables).1 (aZ b.tables b.steps a.steps false []).1).Txt:=by
 have hs:(aZ b.tables b.steps a.steps false []).1=(aY b.tables b.steps a.steps false []).1:=by
  rcases mN (tbs:=b.tables) (tbs':=a.tables) (inn:=a.steps) false (fS ea) b.steps [] (fun s hs=>zAE s (fS eb s hs)) with ⟨_,h⟩|⟨_,_,h⟩
  ·rw [h] at h1;cases h1
  ·exact h.symm
 have ht:(fA a.tables b.tables).1=(dI a.tables b.tables).1:=by
  rcases uR (b:=b.tables) (dO (dH ea)).2.1 with ⟨_,t2⟩|⟨o,t1,t2⟩
  ·rw [t2] at h2;cases h2
  ·rw [t1,t2]
 rw [hs,ht]
 exact ⟨hb.name,uS ha.tables hb.tables,mO b.steps (fun s hs inn w hi=>zAF hb.tables s (hb.steps s hs) inn w hi) a.steps false [] ha.steps (by simp)⟩
theorem zBx (a b:Mp) (ha:a.Txt) (hb:b.Txt):Sem Tryz.prog 6 [.agg a.row,.agg b.row] (.tup [.agg (zAy a b).1.row,.int .i64 (zAy a b).2]):=by
 have c1:=iT zB2 a ha
 have c2:=iT zB2 b hb
 have c3:Sem Tryz.prog 16 [.sl 0 12 (a.steps.map MStep.row)] (.bool (cV [] a.steps)):=zGG a.steps
 have c4:=fun (h:a.err=0∧b.err=0)=>zHy b.name b.tables (dH h.2) (b.steps.map MStep.row) b.steps (oZ h.2).1 (fun s hs=>⟨fS h.2 s hs,(oZ h.2).2 s hs⟩) a.tables a.steps false (fS h.1)
 have c5:=fun (h:a.err=0∧b.err=0)=>pI a.tables b.tables (by have:=(dO (dH h.1)).1;omega) (by have:=(dO (dH h.2)).1;omega) (fun t ht=>by have:=((dO (dH h.2)).2.2 t ht).2;omega) (fun t ht=>by have:=((dO (dH h.1)).2.2 t ht).2;omega)
 have c6:=fun (h:a.err=0∧b.err=0) h1 h2=>iT zB2 _ (zIw ha hb h.1 h.2 h1 h2)
 generalize hr:zAy a b=r
 unfold zAy at hr
 obtain ⟨an,atb,asx⟩:=a
 obtain ⟨bn,btb,bs⟩:=b
 clear ha hb
 generalize (Mp.mk an atb asx).err=ea at *
 generalize (Mp.mk bn btb bs).err=eb at *
 dsimp only [Mp.row] at *
 generalize cV [] asx=pl at *
 generalize aZ btb bs asx false []=q at *
 generalize fA atb btb=tt at *
 obtain ⟨qs,qb⟩:=q
 obtain ⟨ts,tb⟩:=tt
 dsimp only at *
 generalize (Mp.mk bn ts qs).err=eo at *
 have hll:(bs.map MStep.row).length=bs.length:=List.length_map _
 have bt:¬ true=false:=by decide
 refine si [4,1000035,1000069,1000157] func6 ?_
 repeat'((conv=>whnf);first|(try(first|apply eN|apply eI|apply eC);conv=>whnf);apply sD;(focus first|exact gx c1|exact gx c2|exact gx c3|(refine gx (c4 (by omega))<;>exact pre)|(refine gx (c5 (by omega))<;>exact pre)|(refine gx (c6 (by omega) (by assumption) (by assumption))<;>exact pre)|(refine gx (iT ?_ ?_ ?_)<;>exact pre)|(refine gx (zA2 ?_ ?_)<;>exact pre)|(refine gx (pI ?_ ?_ ?_ ?_ ?_ ?_)<;>exact pre)|exact bV)|apply rR|apply rE|apply rH| (apply cD<;>intro hb<;>(try simp only[aA]at hb)<;>try exact aM))
 all_goals try exact false
 ·rw [if_pos (by grind)] at hr
  subst hr
  repeat' ((conv=>whnf);first|exact aI|with_reducible first|apply And.intro|apply oR|apply oN|apply dC)
  all_goals (conv=>whnf)
  (first|refine aG ?_|refine aB ?_|skip)
  repeat' (first|exact bE|exact aO|with_reducible apply dC|with_reducible apply aB)
 ·rw [if_neg (by grind),if_pos (by grind)] at hr
  subst hr
  repeat' ((conv=>whnf);first|exact aI|with_reducible first|apply And.intro|apply oR|apply oN|apply dC)
  all_goals (conv=>whnf)
  (first|refine aG ?_|refine aB ?_|skip)
  repeat' (first|exact bE|exact aO|with_reducible apply dC|with_reducible apply aB)
 ·rw [if_neg (by grind),if_neg (by grind),if_pos (by grind)] at hr
  subst hr
  repeat' ((conv=>whnf);first|exact aI|with_reducible first|apply And.intro|apply oR|apply oN|apply dC)
  all_goals (conv=>whnf)
  (first|refine aG ?_|refine aB ?_|skip)
  repeat' (first|exact bE|exact aO|with_reducible apply dC|with_reducible apply aB)
 ·rw [if_neg (by grind),if_neg (by grind),if_neg (by grind),if_pos (by grind)] at hr
  subst hr
  repeat' ((conv=>whnf);first|exact aI|with_reducible first|apply And.intro|apply oR|apply oN|apply dC)
  all_goals (conv=>whnf)
  (first|refine aG ?_|refine aB ?_|skip)
  repeat' (first|exact bE|exact aO|with_reducible apply dC|with_reducible apply aB)
 ·rw [if_neg (by grind),if_neg (by grind),if_neg (by grind),if_neg (by grind),if_pos (by grind)] at hr
  subst hr
  repeat' ((conv=>whnf);first|exact aI|with_reducible first|apply And.intro|apply oR|apply oN|apply dC)
  all_goals (conv=>whnf)
  (first|refine aG ?_|refine aB ?_|skip)
  repeat' (first|exact bE|exact aO|with_reducible apply dC|with_reducible apply aB)
 ·rw [if_neg (by grind),if_neg (by grind),if_neg (by grind),if_neg (by grind),if_neg (by grind),if_pos (by grind)] at hr
  subst hr
  repeat' ((conv=>whnf);first|exact aI|with_reducible first|apply And.intro|apply oR|apply oN|apply dC)
  all_goals (conv=>whnf)
  (first|refine aG ?_|refine aB ?_|skip)
  repeat' (first|exact bE|exact aO|with_reducible apply dC|with_reducible apply aB)
 ·rw [if_neg (by grind),if_neg (by grind),if_neg (by grind),if_neg (by grind),if_neg (by grind),if_neg (by grind)] at hr
  subst hr
  exact aT
set_option maxHeartbeats 4000000
theorem zEi (a b:Mp):(nF a b).1=zMp∨(nF a b).1.err=0:=by
 unfold nF
 repeat' split
 all_goals first
  |exact .inl rfl
  |(right;rename_i h;exact Decidable.not_not.1 h)
theorem zHf (a b:Mp) (ha:a.Txt) (hb:b.Txt):Sem Tryz.prog 3 [.agg a.row,.agg b.row] (.bool true):=by
 have h1:=zEb zBB a b ha hb
 have h2:=zBx a b ha hb
 rw [← zGw] at h2
 have h3:Sem Tryz.prog 7 [.agg (nF a b).1.row,.agg (nF a b).1.row] (.bool true):=by
  rcases zEi a b with h|h
  ·rw [h]
   exact pN zMp (by simp [zMp]) (by simp [zMp])
  ·exact pN _ (fun s hs=>⟨(oZ h).2 s hs,_,fS h s hs⟩) (fun t ht=>by have:=((dO (dH h)).2.2 t ht).2;omega)
 have h4:=zY
 generalize nF a b=r at h1 h2 h3
 obtain ⟨m,e⟩:=r
 dsimp only at h1 h2 h3
 unfold Mp.row at h1 h2 h3 ⊢
 refine si [1000013,1000035,1000037,1000049,1000050,1000069,1000070,1000116,1000157] func3 ?_
 repeat'((conv=>whnf);first|(try(first|apply eN|apply eI|apply eC);conv=>whnf);apply sD;(focus(try intro hc;have hc0:=hc;(try simp only[aA]at hc);try refine aE ?_);first|exact gx h1|exact gx h2|exact gx h3|exact gx h4|(refine gx (zEb ?_ ?_ ?_ ?_ ?_)<;>exact pre)|(refine gx (zBx ?_ ?_ ?_ ?_)<;>exact pre)|(refine gx (pN ?_ ?_ ?_)<;>exact pre)|(refine gx (zY )<;>exact pre)|exact aC)|apply rR|apply rE|apply rH| (apply cD<;>intro hb<;>(try simp only[aA]at hb)<;>try exact aM))
 all_goals try exact false
 repeat' ((conv=>whnf);first|exact aI|with_reducible first|apply And.intro|apply oR|apply oN|apply dC)
 all_goals (conv=>whnf)
 exact aS (by simp)
end Go.Proofs.YtnjgoldinaffgaaGreatDoor
