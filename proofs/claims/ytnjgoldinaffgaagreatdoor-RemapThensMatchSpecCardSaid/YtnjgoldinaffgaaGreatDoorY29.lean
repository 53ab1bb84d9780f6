/- Two maps, one behind the other: what the program makes of them, given what its tables are (walk). -/
import Derived.Test.YtnjgoldinaffgaaGreatDoorY28
namespace Go.Proofs.YtnjgoldinaffgaaGreatDoor
open _root_.Go.Proofs.Tryz
set_option linter.unusedSimpArgs false
set_option linter.unusedVariables false
open Go.RowKit
set_option maxRecDepth 100000
set_option maxHeartbeats 40000000
def zM4:Prop:=∀ a b:Mp,a.Txt→b.Txt→aW a.tables=0→aW b.tables=0→Sem Tryz.prog 14 [.agg a.row,.agg b.row] (.tup [.sl 0 2 ((dI a.tables b.tables).1.map Tb.row),.int .i64 (dI a.tables b.tables).2])
theorem zIx {a b:Mp} (ha:a.Txt) (hb:b.Txt):(Mp.mk b.name (dI a.tables b.tables).1 (aY b.tables b.steps a.steps false []).1).Txt:=
 ⟨hb.name,uS ha.tables hb.tables,mO b.steps (fun s hs inn w hi=>zAF hb.tables s (hb.steps s hs) inn w hi) a.steps false [] ha.steps (by simp)⟩
theorem zGa{p:Prop}(h:p:=by first|(refine gx (fU ?_ ?_)<;>exact pre)):p:=h
theorem zEb (hTB:zM4) (a b:Mp) (ha:a.Txt) (hb:b.Txt):Sem Tryz.prog 5 [.agg a.row,.agg b.row] (.tup [.agg (nF a b).1.row,.int .i64 (nF a b).2]):=by
 have c1:=fU a ha
 have c2:=fU b hb
 have c3:a.err=0→Sem Tryz.prog 12 [.sl 0 12 (a.steps.map MStep.row)] (.bool (dL [] a.steps)):=fun h=>zDt a.steps (fS h)
 have c4:=fun (h:a.err=0∧b.err=0)=>zHe b.tables (dH h.2) b.steps (oZ h.2).1 (fun s hs=>⟨fS h.2 s hs,(oZ h.2).2 s hs⟩) a.tables a.steps false (fS h.1)
 have c5:=fun (h:a.err=0∧b.err=0)=>hTB a b ha hb (dH h.1) (dH h.2)
 have c6:=fU _ (zIx ha hb)
 generalize hr:nF a b=r
 unfold nF at hr
 obtain ⟨an,atb,asx⟩:=a
 obtain ⟨bn,btb,bs⟩:=b
 clear ha hb
 generalize (Mp.mk an atb asx).err=ea at *
 generalize (Mp.mk bn btb bs).err=eb at *
 dsimp only [Mp.row] at *
 generalize dL [] asx=pl at *
 generalize aY btb bs asx false []=q at *
 generalize dI atb btb=tt at *
 obtain ⟨qs,qe⟩:=q
 obtain ⟨ts,te⟩:=tt
 dsimp only at *
 generalize (Mp.mk bn ts qs).err=eo at *
 refine si [4,7,2000007,12,38,1000013,1000035,1000037,1000069,1000070,1000116,1000157] func5 ?_
 repeat'((conv=>whnf);first|(try(first|apply eN|apply eI|apply eC);conv=>whnf);apply sD;(focus first|exact zGa|exact bV)|((with_reducible apply CallO.go);(conv=>whnf);apply sD;(focus first|(apply aU (kD _ _ _ _ _ _ _);all_goals exact eX)))|apply rR|apply rE|apply rH| (apply cD<;>intro hb<;>(try simp only[aA]at hb)<;>try exact aM))
 all_goals try exact false
 refine zLK [16] ?_
 conv=>whnf
 refine aL (M:=fun t=>gF t [4,7,2000007,12,38,1000013,1000035,1000037,1000069,1000070,1000116,1000157]) hT hM (fun i:Nat => [(18,.int .i64 i)]) (fun i=>i≤2∧(1≤i→ea=0)∧(2≤i→eb=0)) (fun i=>2 - i) (0) ?_ ?_ ?_
 ·exact aV
 ·exact ⟨by omega,by omega,by omega⟩
 ·rintro i ⟨hi,h1,h2⟩
  by_cases hi2:i=2
  ·subst hi2
   have e1:=h1 (by omega)
   have e2:=h2 (by omega)
   repeat'((conv=>whnf);first|(try(first|apply eN|apply eI|apply eC);conv=>whnf);apply sD;(focus first|exact gx c1|exact gx c2|(refine gx (c3 (by omega))<;>exact pre)|(refine gx (c5 (by omega))<;>exact pre)|exact gx c6|exact zGa|exact bV)|((with_reducible apply CallO.go);(conv=>whnf);apply sD;(focus first|(apply aU (c4 (by omega));all_goals exact eX)))|apply rR|apply rE|apply rH| (apply cD<;>intro hb<;>(try simp only[aA]at hb)<;>try exact aM))
   all_goals try exact false
   ·rw [if_neg (by grind),if_neg (by grind),if_pos (by grind)] at hr
    subst hr
    repeat' ((conv=>whnf);first|exact aI|with_reducible first|apply And.intro|apply oR|apply oN|apply dC)
    all_goals (conv=>whnf)
    (first|refine aG ?_|refine aB ?_|skip)
    repeat' (first|exact bE|exact aO|with_reducible apply dC|with_reducible apply aB)
   ·rw [if_neg (by grind),if_neg (by grind),if_neg (by grind),if_pos (by grind)] at hr
    subst hr
    repeat' ((conv=>whnf);first|exact aI|with_reducible first|apply And.intro|apply oR|apply oN|apply dC)
    all_goals (conv=>whnf)
    (first|refine aG ?_|refine aB ?_|skip)
    repeat' (first|exact bE|exact aO|with_reducible apply dC|with_reducible apply aB)
   ·rw [if_neg (by grind),if_neg (by grind),if_neg (by grind),if_neg (by grind),if_pos (by grind)] at hr
    subst hr
    repeat' ((conv=>whnf);first|exact aI|with_reducible first|apply And.intro|apply oR|apply oN|apply dC)
    all_goals (conv=>whnf)
    (first|refine aG ?_|refine aB ?_|skip)
    repeat' (first|exact bE|exact aO|with_reducible apply dC|with_reducible apply aB)
   ·rw [if_neg (by grind),if_neg (by grind),if_neg (by grind),if_neg (by grind),if_neg (by grind),if_pos (by grind)] at hr
    subst hr
    repeat' ((conv=>whnf);first|exact aI|with_reducible first|apply And.intro|apply oR|apply oN|apply dC)
    all_goals (conv=>whnf)
    (first|refine aG ?_|refine aB ?_|skip)
    repeat' (first|exact bE|exact aO|with_reducible apply dC|with_reducible apply aB)
   ·rw [if_neg (by grind),if_neg (by grind),if_neg (by grind),if_neg (by grind),if_neg (by grind),if_neg (by grind)] at hr
    subst hr
    exact aT
  ·by_cases hi0:i=0
   ·subst hi0
    repeat'((conv=>whnf);first|(try(first|apply eN|apply eI|apply eC);conv=>whnf);apply sD;(focus first|exact gx c1|exact zGa|(exact ⟨by omega,rfl⟩)|exact bV)|((with_reducible apply CallO.go);(conv=>whnf);apply sD;(focus first|(apply aU (kD _ _ _ _ _ _ _);all_goals exact eX)))|apply rR|apply rE|apply rH| (apply cD<;>intro hb<;>(try simp only[aA]at hb)<;>try exact aM))
    all_goals try exact false
    ·rw [if_pos (by grind)] at hr
     subst hr
     repeat' ((conv=>whnf);first|exact aI|with_reducible first|apply And.intro|apply oR|apply oN|apply dC)
     all_goals (conv=>whnf)
     (first|refine aG ?_|refine aB ?_|skip)
     repeat' (first|exact bE|exact aO|with_reducible apply dC|with_reducible apply aB)
    ·refine ⟨1,⟨by omega,fun _=>hb,by omega⟩,by omega,?_⟩
     exact aV
   ·have hi1:i=1:=by omega
    subst hi1
    have e1:=h1 (by omega)
    repeat'((conv=>whnf);first|(try(first|apply eN|apply eI|apply eC);conv=>whnf);apply sD;(focus first|exact gx c2|exact zGa|(exact ⟨by omega,rfl⟩)|exact bV)|((with_reducible apply CallO.go);(conv=>whnf);apply sD;(focus first|(apply aU (kD _ _ _ _ _ _ _);all_goals exact eX)))|apply rR|apply rE|apply rH| (apply cD<;>intro hb<;>(try simp only[aA]at hb)<;>try exact aM))
    all_goals try exact false
    ·rw [if_neg (by grind),if_pos (by grind)] at hr
     subst hr
     repeat' ((conv=>whnf);first|exact aI|with_reducible first|apply And.intro|apply oR|apply oN|apply dC)
     all_goals (conv=>whnf)
     (first|refine aG ?_|refine aB ?_|skip)
     repeat' (first|exact bE|exact aO|with_reducible apply dC|with_reducible apply aB)
    ·refine ⟨2,⟨by omega,fun _=>e1,fun _=>hb⟩,by omega,?_⟩
     exact aV
end Go.Proofs.YtnjgoldinaffgaaGreatDoor
