/- Two maps, one behind the other: what the reference makes of them (walk). Two maps, one behind the other: the law, given the maps' data. -/
import Derived.Test.YtnjgoldinaffgaaGreatDoorY34
import Derived.Test.YtnjgoldinaffgaaGreatDoorY32
import Derived.Test.YtnjgoldinaffgaaGreatDoorY33
namespace Go.Proofs.YtnjgoldinaffgaaGreatDoor
open Tryz
set_option linter.unusedSimpArgs false
set_option linter.unusedVariables false
open Go.RowKit
set_option maxRecDepth 100000
set_option maxHeartbeats 40000000
theorem zBY:zZ:=fun nm tbs rows fs hf=>wH nm tbs rows fs hf
theorem zHu (nm:Str) (tbs:List Tb) (ht:aW tbs=0) (srows:List (List D)) (ss:List MStep) (hl:ss.length≤300) (hg:∀ s ∈ ss,s.Good tbs∧s.Slim):zCa nm tbs srows ss:=by
 have key:∀ s:MStep,s.Good tbs∧s.Slim→zCa nm tbs srows s.kids:=by
  intro s
  induction s using MStep.ind with
  |h k t fs n o c ss ih=>
   rintro ⟨h1,h2⟩
   have h3:=(cQ h1).2
   have h4:=tR h2
   exact zDV nm tbs ht srows ss h4.1 h3 fun s hs=>ih s hs ⟨h3 s hs,h4.2 s hs⟩
 exact zDV nm tbs ht srows ss hl (fun s hs=>(hg s hs).1) fun s hs=>key s (hg s hs)
theorem zGC (l:List MStep):rP l:=by
 have key:∀ s:MStep,rP s.kids:=by
  intro s
  induction s using MStep.ind with
  |h k t fs n o c ss ih=>exact zCF ss ih
 exact zCF l fun s _=>key s
theorem zIt {a b:Mp} (ha:a.Txt) (hb:b.Txt) (ea:a.err=0) (eb:b.err=0) (h1:(aZ b.tables b.steps a.steps false []).2=true) (h2:(fA a.tables b.tables).2=true):(Mp.mk b.name (fA a.tables b.tables).1 (aZ b.tables b.steps a.steps false []).1).Txt:=by
 have hs:(aZ b.tables b.steps a.steps false []).1=(aY b.tables b.steps a.steps false []).1:=by
  rcases mL (tbs:=b.tables) (tbs':=a.tables) (inn:=a.steps) false (fS ea) b.steps [] (fun s hs=>zAA s (fS eb s hs)) with ⟨_,h⟩|⟨_,_,h⟩
  ·rw [h] at h1;cases h1
  ·exact h.symm
 have ht:(fA a.tables b.tables).1=(dI a.tables b.tables).1:=by
  rcases uO (b:=b.tables) (dO (dH ea)).2.1 with ⟨_,t2⟩|⟨o,t1,t2⟩
  ·rw [t2] at h2;cases h2
  ·rw [t1,t2]
 rw [hs,ht]
 exact ⟨hb.name,uP ha.tables hb.tables,mM b.steps (fun s hs inn w hi=>zAB hb.tables s (hb.steps s hs) inn w hi) a.steps false [] ha.steps (by simp)⟩
theorem zBt (a b:Mp) (ha:a.Txt) (hb:b.Txt):Sem Tryz.prog 6 [.agg a.row,.agg b.row] (.tup [.agg (zAu a b).1.row,.int .i64 (zAu a b).2]):=by
 have c1:=iR zBY a ha
 have c2:=iR zBY b hb
 have c3:Sem Tryz.prog 16 [.sl 0 12 (a.steps.map MStep.row)] (.bool (cV [] a.steps)):=zGC a.steps
 have c4:=fun (h:a.err=0∧b.err=0)=>zHu b.name b.tables (dH h.2) (b.steps.map MStep.row) b.steps (oX h.2).1 (fun s hs=>⟨fS h.2 s hs,(oX h.2).2 s hs⟩) a.tables a.steps false (fS h.1)
 have c5:=fun (h:a.err=0∧b.err=0)=>pG a.tables b.tables (by have:=(dO (dH h.1)).1;omega) (by have:=(dO (dH h.2)).1;omega) (fun t ht=>by have:=((dO (dH h.2)).2.2 t ht).2;omega) (fun t ht=>by have:=((dO (dH h.1)).2.2 t ht).2;omega)
 have c6:=fun (h:a.err=0∧b.err=0) h1 h2=>iR zBY _ (zIt ha hb h.1 h.2 h1 h2)
 generalize hr:zAu a b=r
 unfold zAu at hr
 obtain ⟨an,atb,asx⟩:=a
 obtain ⟨bn,btb,bs⟩:=b
 clear ha hb
 generalize (Mp.mk an atb asx).err=ea at *
 generalize (Mp.mk bn btb bs).err=eb at *
 dsimp only [Mp.row] at *
 generalize cV [] asx=pl at *
 generalize aZ btb bs asx false []=q at *
 generalize fA atb btb=tt at *
 obtain ⟨qs,qb⟩:=q
 obtain ⟨ts,tb⟩:=tt
 dsimp only at *
 generalize (Mp.mk bn ts qs).err=eo at *
 have hll:(bs.map MStep.row).length=bs.length:=List.length_map _
 have bt:¬ true=false:=by decide
 refine si [4,1000035,1000069,1000157] func6 ?_
 repeat'((conv=>whnf);first|(try(first|apply eN|apply eI|apply eC);conv=>whnf);apply sD;(focus first|exact gx c1|exact gx c2|exact gx c3|(refine gx (c4 (by omega))<;>exact pre)|(refine gx (c5 (by omega))<;>exact pre)|(refine gx (c6 (by omega) (by assumption) (by assumption))<;>exact pre)|(refine gx (iR ?_ ?_ ?_)<;>exact pre)|(refine gx (zAY ?_ ?_)<;>exact pre)|(refine gx (pG ?_ ?_ ?_ ?_ ?_ ?_)<;>exact pre)|exact bV)|apply rR|apply rE|apply rH| (apply cD<;>intro hb<;>(try simp only[aA]at hb)<;>try exact aM))
 all_goals try exact false
 ·rw [if_pos (by grind)] at hr
  subst hr
  repeat' ((conv=>whnf);first|exact aI|with_reducible first|apply And.intro|apply oR|apply oN|apply dC)
  all_goals (conv=>whnf)
  (first|refine aG ?_|refine aB ?_|skip)
  repeat' (first|exact bE|exact aO|with_reducible apply dC|with_reducible apply aB)
 ·rw [if_neg (by grind),if_pos (by grind)] at hr
  subst hr
  repeat' ((conv=>whnf);first|exact aI|with_reducible first|apply And.intro|apply oR|apply oN|apply dC)
  all_goals (conv=>whnf)
  (first|refine aG ?_|refine aB ?_|skip)
  repeat' (first|exact bE|exact aO|with_reducible apply dC|with_reducible apply aB)
 ·rw [if_neg (by grind),if_neg (by grind),if_pos (by grind)] at hr
  subst hr
  repeat' ((conv=>whnf);first|exact aI|with_reducible first|apply And.intro|apply oR|apply oN|apply dC)
  all_goals (conv=>whnf)
  (first|refine aG ?_|refine aB ?_|skip)
  repeat' (first|exact bE|exact aO|with_reducible apply dC|with_reducible apply aB)
 ·rw [if_neg (by grind),if_neg (by grind),if_neg (by grind),if_pos (by grind)] at hr
  subst hr
  repeat' ((conv=>whnf);first|exact aI|with_reducible first|apply And.intro|apply oR|apply oN|apply dC)
  all_goals (conv=>whnf)
  (first|refine aG ?_|refine aB ?_|skip)
  repeat' (first|exact bE|exact aO|with_reducible apply dC|with_reducible apply aB)
 ·rw [if_neg (by grind),if_neg (by grind),if_neg (by grind),if_neg (by grind),if_pos (by grind)] at hr
  subst hr
  repeat' ((conv=>whnf);first|exact aI|with_reducible first|apply And.intro|apply oR|apply oN|apply dC)
  all_goals (conv=>whnf)
  (first|refine aG ?_|refine aB ?_|skip)
  repeat' (first|exact bE|exact aO|with_reducible apply dC|with_reducible apply aB)
 ·rw [if_neg (by grind),if_neg (by grind),if_neg (by grind),if_neg (by grind),if_neg (by grind),if_pos (by grind)] at hr
  subst hr
  repeat' ((conv=>whnf);first|exact aI|with_reducible first|apply And.intro|apply oR|apply oN|apply dC)
  all_goals (conv=>whnf)
  (first|refine aG ?_|refine aB ?_|skip)
  repeat' (first|exact bE|exact aO|with_reducible apply dC|with_reducible apply aB)
 ·rw [if_neg (by grind),if_neg (by grind),if_neg (by grind),if_neg (by grind),if_neg (by grind),if_neg (by grind)] at hr
  subst hr
  exact aT
set_option maxHeartbeats 4000000
theorem zEe (a b:Mp):(nD a b).1=zMp∨(nD a b).1.err=0:=by
 unfold nD
 repeat' split
 all_goals first
  |exact .inl rfl
  |(right;rename_i h;exact Decidable.not_not.1 h)
theorem zHb (a b:Mp) (ha:a.Txt) (hb:b.Txt):Sem Tryz.prog 3 [.agg a.row,.agg b.row] (.bool true):=by
 have h1:=zD7 zBx a b ha hb
 have h2:=zBt a b ha hb
 rw [← zGr] at h2
 have h3:Sem Tryz.prog 7 [.agg (nD a b).1.row,.agg (nD a b).1.row] (.bool true):=by
  rcases zEe a b with h|h
  ·rw [h]
   exact pL zMp (by simp [zMp]) (by simp [zMp])
  ·exact pL _ (fun s hs=>⟨(oX h).2 s hs,_,fS h s hs⟩) (fun t ht=>by have:=((dO (dH h)).2.2 t ht).2;omega)
 have h4:=zS
 generalize nD a b=r at h1 h2 h3
 obtain ⟨m,e⟩:=r
 dsimp only at h1 h2 h3
 unfold Mp.row at h1 h2 h3 ⊢
 refine si [1000013,1000035,1000037,1000049,1000050,1000069,1000070,1000116,1000157] func3 ?_
 repeat'((conv=>whnf);first|(try(first|apply eN|apply eI|apply eC);conv=>whnf);apply sD;(focus(try intro hc;have hc0:=hc;(try simp only[aA]at hc);try refine aE ?_);first|exact gx h1|exact gx h2|exact gx h3|exact gx h4|(refine gx (zD7 ?_ ?_ ?_ ?_ ?_)<;>exact pre)|(refine gx (zBt ?_ ?_ ?_ ?_)<;>exact pre)|(refine gx (pL ?_ ?_ ?_)<;>exact pre)|(refine gx (zS )<;>exact pre)|exact aC)|apply rR|apply rE|apply rH| (apply cD<;>intro hb<;>(try simp only[aA]at hb)<;>try exact aM))
 all_goals try exact false
 repeat' ((conv=>whnf);first|exact aI|with_reducible first|apply And.intro|apply oR|apply oN|apply dC)
 all_goals (conv=>whnf)
 exact aS (by simp)
end Go.Proofs.YtnjgoldinaffgaaGreatDoor
