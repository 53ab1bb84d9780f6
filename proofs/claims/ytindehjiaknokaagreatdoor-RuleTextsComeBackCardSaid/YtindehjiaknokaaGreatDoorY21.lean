/- What the reference reads (plain). The texts of what the reference reads are short (plain). -/
import Derived.Test.YtindehjiaknokaaGreatDoorY20
namespace Go.Proofs.YtindehjiaknokaaGreatDoor
set_option linter.unusedSimpArgs false
set_option linter.unusedVariables false
open Go.RowKit
set_option maxRecDepth 100000
variable {q:Pl} {s:Str}
def contS {α:Type} (one:Pl→α × Pl) (s:Str):Nat→Pl→List α × Pl
 |0,q=>([],q.1,true)
 |m+1,q=>
  if q.2=false∧s[q.1]?=some 44 then ((one (wantS s [44,32] q)).1::(contS one s m (one (wantS s [44,32] q)).2).1,(contS one s m (one (wantS s [44,32] q)).2).2)
  else ([],wantS s [41] q)
def rsevS {α:Type} (one:Pl→α × Pl) (s:Str) (q:Pl):List α × Pl:=((one q).1::(contS one s (s.length+1) (one q).2).1,(contS one s (s.length+1) (one q).2).2)
def rtestS (s:Str) (q:Pl):Cond × Pl:=
 if (wantS s [32] (pathS s q).2).2=true then (.mk 0 [] (pathS s q).1 [] 0 0,wantS s [32] (pathS s q).2)
 else if s[(wantS s [32] (pathS s q).2).1]?=some 102 then (.mk 9 [] (pathS s q).1 [] (endsS s (wantS s wFrom (wantS s [32] (pathS s q).2))).1.1 (endsS s (wantS s wFrom (wantS s [32] (pathS s q).2))).1.2,(endsS s (wantS s wFrom (wantS s [32] (pathS s q).2))).2)
 else if (wantS s wIn (wantS s [32] (pathS s q).2)).2=true then (.mk 5 [] (pathS s q).1 [] 0 0,wantS s wIn (wantS s [32] (pathS s q).2))
 else (.mk 5 [] (pathS s q).1 (rsevS (quoS s) s (wantS s wIn (wantS s [32] (pathS s q).2))).1 0 0,(rsevS (quoS s) s (wantS s wIn (wantS s [32] (pathS s q).2))).2)
def rcS:Nat→Str→Pl→Cond × Pl
 |0,_,q=>(zeroC,q.1,true)
 |n+1,s,q=>
  if q.2=true then (zeroC,q)
  else if startsAt s wAll q.1=true then (.mk 1 (rsevS (rcS n s) s (q.1+4,false)).1 [] [] 0 0,(rsevS (rcS n s) s (q.1+4,false)).2)
  else if startsAt s wAny q.1=true then (.mk 2 (rsevS (rcS n s) s (q.1+4,false)).1 [] [] 0 0,(rsevS (rcS n s) s (q.1+4,false)).2)
  else if startsAt s wNot q.1=true then (.mk 3 (oneS (rcS n s) s (q.1+4,false)).1 [] [] 0 0,(oneS (rcS n s) s (q.1+4,false)).2)
  else if startsAt s wThere q.1=true then (.mk 4 [] (pathS s (q.1+6,false)).1 [] 0 0,(pathS s (q.1+6,false)).2)
  else if startsAt s wCount q.1=true then countS s (q.1+6,false)
  else if startsAt s wEach q.1=true then overS (rcS n s) 7 s (q.1+5,false)
  else if startsAt s wSome q.1=true then overS (rcS n s) 8 s (q.1+5,false)
  else rtestS s q
/-! Places only grow. -/
def Fwd (s:Str) (q r:Pl):Prop:=q.1≤r.1∧r.1≤s.length
theorem Fwd.trans {r t:Pl} (h:Fwd s q r) (g:Fwd s r t):Fwd s q t:=⟨Nat.le_trans h.1 g.1,g.2⟩
theorem Fwd.refl (h:q.1≤s.length):Fwd s q q:=⟨Nat.le_refl _,h⟩
theorem want_fwd (t:Str) (h:q.1≤s.length):Fwd s q (wantS s t q):=wantS_le h
theorem path_fwd (h:q.1≤s.length):Fwd s q (pathS s q).2:=by
 unfold pathS
 split
 ·exact Fwd.refl h
 ·exact ⟨pathEnd_ge s q.1,pathEnd_le h⟩
theorem digsEnd_le (s:Str):∀ (n i:Nat),i≤s.length→digsEnd s n i≤s.length
 |0,i,h=>h
 |n+1,i,h=>by
  unfold digsEnd
  split
  ·rename_i hd
   obtain ⟨c,hc,_⟩:=digAt_some hd
   have hlt:i < s.length:=(gLt hc)
   exact digsEnd_le s n (i+1) hlt
  ·exact h
theorem starts_le {t:Str} {i:Nat} (h:startsAt s t i=true) (hi:i≤s.length):i+t.length≤s.length:=by
 have g:=starts_ate h
 have:=congrArg List.length g.drop
 rw [List.length_append,List.length_drop,List.length_drop] at this
 omega
theorem digsEnd_ge' (s:Str):∀ (n i:Nat),i≤digsEnd s n i
 |0,i=>Nat.le_refl _
 |n+1,i=>by
  unfold digsEnd
  split
  ·have:=digsEnd_ge' s n (i+1)
   omega
  ·exact Nat.le_refl _
theorem num_fwd (h:q.1≤s.length):Fwd s q (numS s q).2:=by
 have hF:q.1≤numF s q.1∧numF s q.1≤s.length:=by
  unfold numF
  split
  ·rename_i hs
   have:=starts_le hs h
   simp at this
   omega
  ·omega
 have hE:numF s q.1≤numE s (numF s q.1)∧numE s (numF s q.1)≤s.length:=by
  unfold numE
  split
  ·rename_i hx
   have hlt:numF s q.1 < s.length:=(gLt hx)
   omega
  ·exact ⟨digsEnd_ge' s 13 _,digsEnd_le s 13 _ hF.2⟩
 unfold numS
 split
 ·exact Fwd.refl h
 ·unfold numI
  split
  ·exact hF
  ·split
   ·exact ⟨Nat.le_trans hF.1 hE.1,hE.2⟩
   ·exact ⟨Nat.le_trans hF.1 hE.1,hE.2⟩
theorem quoI_fwd {s:Str}:∀ (n i:Nat) (out:Str),i≤s.length→i≤(quoI s n i out).2.1∧(quoI s n i out).2.1≤s.length
 |0,i,out,h=>⟨Nat.le_refl _,h⟩
 |n+1,i,out,h=>by
  unfold quoI
  cases hx:s[i]? with
  |none=>exact ⟨Nat.le_refl _,h⟩
  |some c=>
   have hlt:i < s.length:=(gLt hx)
   dsimp only
   split
   ·exact ⟨by dsimp only;omega,by dsimp only;omega⟩
   ·split
    ·cases hy:s[i+1]? with
     |none=>exact ⟨by dsimp only;omega,by dsimp only;omega⟩
     |some d=>
      have hlt2:i+1 < s.length:=(gLt hy)
      dsimp only
      split
      ·have:=quoI_fwd n (i+2) (out ++ [d]) hlt2
       omega
      ·exact ⟨by dsimp only;omega,by dsimp only;omega⟩
    ·have:=quoI_fwd n (i+1) (out ++ [c]) hlt
     omega
theorem quo_fwd (h:q.1≤s.length):Fwd s q (quoS s q).2:=by
 have hw:=want_fwd [34] h
 unfold quoS
 split
 ·exact hw
 ·exact hw.trans (quoI_fwd _ _ _ hw.2)
theorem ends_fwd (h:q.1≤s.length):Fwd s q (endsS s q).2:=by
 unfold endsS
 have h1:=num_fwd h
 have h2:=want_fwd [32,116,111,32] h1.2
 exact (h1.trans h2).trans (num_fwd h2.2)
def FwdAll {α:Type} (s:Str) (one:Pl→α × Pl):Prop:=∀ q:Pl,q.1≤s.length→Fwd s q (one q).2
theorem one_fwd {α:Type} {one:Pl→α × Pl} (ho:FwdAll s one) (h:q.1≤s.length):Fwd s q (oneS one s q).2:=(ho q h).trans (want_fwd [41] (ho q h).2)
theorem cont_fwd {α:Type} {s:Str} {one:Pl→α × Pl} (ho:FwdAll s one):∀ (m:Nat) (q:Pl),q.1≤s.length→Fwd s q (contS one s m q).2
 |0,q,h=>Fwd.refl h
 |m+1,q,h=>by
  unfold contS
  split
  ·have h1:=want_fwd [44,32] h
   have h2:=h1.trans (ho _ h1.2)
   exact h2.trans (cont_fwd ho m _ h2.2)
  ·exact want_fwd [41] h
theorem rsev_fwd {α:Type} {one:Pl→α × Pl} (ho:FwdAll s one) (h:q.1≤s.length):Fwd s q (rsevS one s q).2:=(ho q h).trans (cont_fwd ho _ _ (ho q h).2)
theorem over_fwd {one:Pl→Cond × Pl} (ho:FwdAll s one) (k:Int) (h:q.1≤s.length):Fwd s q (overS one k s q).2:=by
 have h1:=path_fwd h
 have h2:=h1.trans (want_fwd [32,40] h1.2)
 exact h2.trans (one_fwd ho h2.2)
theorem count_fwd (h:q.1≤s.length):Fwd s q (countS s q).2:=by
 have h1:=path_fwd h
 have h2:=h1.trans (want_fwd (32::wFrom) h1.2)
 exact h2.trans (ends_fwd h2.2)
theorem rtest_fwd (h:q.1≤s.length):Fwd s q (rtestS s q).2:=by
 have h1:=path_fwd h
 have h2:=h1.trans (want_fwd [32] h1.2)
 have h3:=h2.trans (want_fwd wFrom h2.2)
 have h4:=h2.trans (want_fwd wIn h2.2)
 unfold rtestS
 split
 ·exact h2
 ·split
  ·exact h3.trans (ends_fwd h3.2)
  ·split
   ·exact h4
   ·exact h4.trans (rsev_fwd (fun q hq=>quo_fwd hq) h4.2)
theorem rc_fwd (s:Str):∀ n:Nat,FwdAll s (rcS n s)
 |0,q,h=>Fwd.refl h
 |n+1,q,h=>by
  have ho:=rc_fwd s n
  have hk:∀ (t:Str),startsAt s t q.1=true→Fwd s q (q.1+t.length,false):=fun t ht=>⟨by dsimp only;omega,starts_le ht h⟩
  unfold rcS
  split
  ·exact Fwd.refl h
  split
  ·rename_i ht
   have:=hk wAll ht
   exact this.trans (rsev_fwd ho this.2)
  split
  ·rename_i ht
   have:=hk wAny ht
   exact this.trans (rsev_fwd ho this.2)
  split
  ·rename_i ht
   have:=hk wNot ht
   exact this.trans (one_fwd ho this.2)
  split
  ·rename_i ht
   have:=hk wThere ht
   exact this.trans (path_fwd this.2)
  split
  ·rename_i ht
   have:=hk wCount ht
   exact this.trans (count_fwd this.2)
  split
  ·rename_i ht
   have:=hk wEach ht
   exact this.trans (over_fwd ho 7 this.2)
  split
  ·rename_i ht
   have:=hk wSome ht
   exact this.trans (over_fwd ho 8 this.2)
  ·exact rtest_fwd h
end Go.Proofs.YtindehjiaknokaaGreatDoor
namespace Go.Proofs.YtindehjiaknokaaGreatDoor
set_option linter.unusedSimpArgs false
set_option linter.unusedVariables false
open Go.RowKit
set_option maxRecDepth 100000
set_option maxHeartbeats 4000000
def CondP (n:Nat) (s:Str):Prop:=∀ q:Pl,q.1≤s.length→(q.2=false→s.length - q.1 < n)→
 SemO Tryz.prog 18 (.obj (pC s q)) [] (.agg (pcS n s q).1.row) (some (.obj (pC s (pcS n s q).2)))
theorem condP_of {n:Nat} {s:Str} (H:CondP n s) (q:Pl) (h1:q.1≤s.length) (h2:q.2=false→s.length - q.1 < n):
  SemO Tryz.prog 18 (.obj (pC s q)) [] (.agg (pcS n s q).1.row) (some (.obj (pC s (pcS n s q).2))):=H q h1 h2
def CondsP (n:Nat) (s:Str):Prop:=∀ i:Nat,1≤i→i≤s.length→s.length - i < n→
 SemO Tryz.prog 31 (.obj (pC s (i,false))) [] (.sl 0 6 ((sevS (pcS n s) s (s.length+1) (i,false)).1.map Cond.row)) (some (.obj (pC s (sevS (pcS n s) s (s.length+1) (i,false)).2)))
theorem condsP_of {n:Nat} {s:Str} (H:CondsP n s) (i:Nat) (h0:1≤i) (h1:i≤s.length) (h2:s.length - i < n):
  SemO Tryz.prog 31 (.obj (pC s (i,false))) [] (.sl 0 6 ((sevS (pcS n s) s (s.length+1) (i,false)).1.map Cond.row)) (some (.obj (pC s (sevS (pcS n s) s (s.length+1) (i,false)).2))):=H i h0 h1 h2
def TestP (s:Str):Prop:=∀ i:Nat,i≤s.length→
 SemO Tryz.prog 37 (.obj (pC s (i,false))) [] (.agg (testS s (i,false)).1.row) (some (.obj (pC s (testS s (i,false)).2)))
theorem testP_of {s:Str} (H:TestP s) (i:Nat) (h1:i≤s.length):
  SemO Tryz.prog 37 (.obj (pC s (i,false))) [] (.agg (testS s (i,false)).1.row) (some (.obj (pC s (testS s (i,false)).2))):=H i h1
theorem pc_fwd (n:Nat) (s:Str) (h:∀ q:Pl,q.1≤s.length→(rcS n s q).2=(pcS n s q).2):FwdAll s (pcS n s):=fun q hq=>by
 have:=rc_fwd s n q hq
 rwa [h q hq] at this
theorem oneP_sem (n:Nat) (s:Str) (q:Pl) (H:CondP n s) (hF:FwdAll s (pcS n s)) (hn:q.2=false→s.length - q.1 < n) (hq:q.1≤s.length) (hs:s.length≤100000000):
  SemO Tryz.prog 32 (.obj (pC s q)) [] (.sl 2 6 ((oneS (pcS n s) s q).1.map Cond.row)) (some (.obj (pC s (oneS (pcS n s) s q).2))):=by
 have h1:=hF q hq
 have c1:=H q hq hn
 have c2:=want_sem s [41] (pcS n s q).2 h1.2 hs (by decide)
 unfold oneS
 dsimp only
 generalize wantS s [41] (pcS n s q).2=q2 at *
 generalize pcS n s q=r1 at *
 obtain ⟨⟨k0,ks0,p0,vs0,lo0,hi0⟩,q1⟩:=r1
 unfold pC at *
 dsimp only at c1 c2
 simp only [List.map_cons,List.map_nil,Cond.row_mk] at c1 ⊢
 refine sO [0,1000016,1000018,1000020,1000030,1000031,1000032,1000033,1000034,1000036,1000037,1000038,1000040,1000041,1000070] Tryz.func32 ?_
 repeat'((conv=>whnf);first|(try(first|apply eN|apply eC);conv=>whnf);apply sD;(focus first|exact side)|((with_reducible apply CallO.go);(conv=>whnf);apply sD;(focus first|(apply giveso_g (c1);all_goals exact preO)|(apply giveso_g (c2);all_goals exact preO)))|apply rR|apply rE|apply rH| (apply cD<;>intro hb<;>(try simp only[SPLT]at hb)<;>try exact noB))
 all_goals try exact false
 exact finR
theorem overP_sem (n:Nat) (s:Str) (i:Nat) (k:Int) (H:CondP n s) (hF:FwdAll s (pcS n s)) (hn:s.length - i < n) (hi:i≤s.length) (hs:s.length≤100000000):
  SemO Tryz.prog 36 (.obj (pC s (i,false))) [.int .i64 k] (.agg (overS (pcS n s) k s (i,false)).1.row) (some (.obj (pC s (overS (pcS n s) k s (i,false)).2))):=by
 have c1:=path_sem s (i,false) hi hs
 have h1:=path_fwd (s:=s) (q:=(i,false)) hi
 have c2:=want_sem s [32,40] (pathS s (i,false)).2 h1.2 hs (by decide)
 have h2:=h1.trans (want_fwd [32,40] h1.2)
 have hle:i≤(wantS s [32,40] (pathS s (i,false)).2).1:=h2.1
 have c3:=oneP_sem n s (wantS s [32,40] (pathS s (i,false)).2) H hF (fun _=>by omega) h2.2 hs
 unfold overS
 dsimp only
 rw [Cond.row_mk]
 generalize wantS s [32,40] (pathS s (i,false)).2=q2 at *
 generalize pathS s (i,false)=r at *
 generalize oneS (pcS n s) s q2=e at *
 unfold pC at *
 dsimp only at c1
 refine sO [0,4,5,4000005,1000016,1000018,1000020,1000030,1000031,1000032,1000033,1000034,1000036,1000037,1000038,1000040,1000041,1000070] Tryz.func36 ?_
 repeat'((conv=>whnf);first|(try(first|apply eN|apply eI|apply eC);conv=>whnf);apply sD;(focus first|exact side)|((with_reducible apply CallO.go);(conv=>whnf);apply sD;(focus first|(apply giveso_g (c1);all_goals exact preO)|(apply giveso_g (c2);all_goals exact preO)|(apply giveso_g (c3);all_goals exact preO)))|apply rR|apply rE|apply rH| (apply cD<;>intro hb<;>(try simp only[SPLT]at hb)<;>try exact noB))
 all_goals try exact false
 repeat' ((conv=>whnf);first|exact endR|with_reducible first|apply And.intro|apply oR|apply oN|apply dC)
 all_goals (conv=>whnf)
 (first|refine rle_agg ?_|refine dle_agg ?_|skip)
 repeat' (first|exact endF|exact endF2|with_reducible apply dC|with_reducible apply dle_agg)
variable {s:Str}
def Sim {α:Type} (a b:α × Pl):Prop:=a.2=b.2∧(a.2.2=false→a.1=b.1)
theorem Sim.refl {α:Type} (a:α × Pl):Sim a a:=⟨rfl,fun _=>rfl⟩
def Stays {α:Type} (one:Pl→α × Pl):Prop:=∀ i,(one (i,true)).2=(i,true)
theorem quo_stays (s:Str):Stays (quoS s):=fun i=>by
 unfold quoS
 rw [wantS_bad,if_pos rfl]
theorem cont_bad {α:Type} (one:Pl→α × Pl) (s:Str) (k i:Nat):contS one s k (i,true)=([],(i,true)):=by
 cases k with
 |zero=>rfl
 |succ k=>
  unfold contS
  rw [if_neg (fun h=>by cases h.1),wantS_bad]
theorem want1_of {i:Nat} {x:UInt8} (h:s[i]?=some x) (t:Str):wantS s (x::t) (i,false)=wantI s t (i+1):=by
 show (if s[i]?=some x then wantI s t (i+1) else (i,true))=_
 rw [if_pos h]
theorem want1_not {i:Nat} {x:UInt8} (h:¬ s[i]?=some x) (t:Str):wantS s (x::t) (i,false)=(i,true):=by
 show (if s[i]?=some x then wantI s t (i+1) else (i,true))=_
 rw [if_neg h]
theorem is1_iff {i:Nat} {x:UInt8}:isS s [x] (i,false)=true↔s[i]?=some x:=by
 show startsAt s [x] i=true↔_
 rw [starts_iff]
 constructor
 ·rintro ⟨r,h⟩
  exact at_drop h
 ·intro h
  exact ⟨s.drop (i+1),drop_atX h⟩
theorem sim_cont {α:Type} {s:Str} {one1 one2:Pl→α × Pl} (hs:∀ q:Pl,q.1≤s.length→Sim (one1 q) (one2 q)) (h1:FwdAll s one1) (h2:Stays one2):
  ∀ (k m i:Nat),i≤s.length→s.length - i < m→s.length - i < k→Sim (contS one1 s k (i,false)) (if isS s [41] (i,false)=true then ([],(i+1,false)) else sevS one2 s m (wantS s [44,32] (i,false)))
 |0,m,i,_,_,h=>by omega
 |k+1,m,i,hi,hm,hk=>by
  obtain ⟨m,rfl⟩:∃ j,m=j+1:=⟨m - 1,by omega⟩
  unfold contS
  by_cases h44:s[i]?=some 44
  ·have hlt:i < s.length:=(gLt h44)
   rw [if_pos ⟨rfl,h44⟩,if_neg (fun h=>by have:=is1_iff.1 h;rw [h44] at this;cases this)]
   have hw:=want1_of h44 [32]
   have hq:=wantI_le (s:=s) [32] (i+1) hlt
   rw [hw]
   unfold sevS
   generalize wantI s [32] (i+1)=q at hq ⊢
   have hS:=hs q hq.2
   have hF:=h1 q hq.2
   obtain ⟨e1,e2⟩:=hS
   rw [← e1]
   generalize hr:(one1 q).2=r at *
   obtain ⟨j,b⟩:=r
   have hj1:q.1≤j:=hF.1
   have hj2:j≤s.length:=hF.2
   cases b with
   |true=>
    rw [if_pos rfl,cont_bad]
    exact ⟨rfl,fun h=>by cases h⟩
   |false=>
    rw [if_neg (fun h=>by cases h)]
    have ih:=sim_cont hs h1 h2 k m j hj2 (by omega) (by omega)
    have e3:=e2 rfl
    rw [e3]
    by_cases h41:isS s [41] (j,false)=true
    ·rw [if_pos h41] at ih ⊢
     exact ⟨ih.1,fun h=>congrArg (List.cons _) (ih.2 h)⟩
    ·rw [if_neg h41] at ih ⊢
     exact ⟨ih.1,fun h=>congrArg (List.cons _) (ih.2 h)⟩
  ·rw [if_neg (fun h=>h44 h.2)]
   by_cases h41:s[i]?=some 41
   ·rw [if_pos (is1_iff.2 h41),want1_of h41 []]
    exact ⟨rfl,fun _=>rfl⟩
   ·rw [if_neg (fun h=>h41 (is1_iff.1 h)),want1_not h41 [],want1_not h44 [32]]
    unfold sevS
    rw [h2 i,if_pos rfl]
    exact ⟨rfl,fun h=>by cases h⟩
theorem sim_sev {α:Type} {one1 one2:Pl→α × Pl} (hs:∀ q:Pl,q.1≤s.length→Sim (one1 q) (one2 q)) (h1:FwdAll s one1) (h2:Stays one2) (q:Pl) (hq:q.1≤s.length) (h0:1≤q.1):
  Sim (rsevS one1 s q) (sevS one2 s (s.length+1) q):=by
 have hS:=hs q hq
 have hF:=h1 q hq
 obtain ⟨e1,e2⟩:=hS
 unfold rsevS sevS
 rw [← e1]
 generalize hr:(one1 q).2=r at *
 obtain ⟨j,b⟩:=r
 have hj1:q.1≤j:=hF.1
 have hj2:j≤s.length:=hF.2
 cases b with
 |true=>
  rw [if_pos rfl,cont_bad]
  exact ⟨rfl,fun h=>by cases h⟩
 |false=>
  rw [if_neg (fun h=>by cases h)]
  have ih:=sim_cont hs h1 h2 (s.length+1) s.length j hj2 (by omega) (by omega)
  rw [e2 rfl]
  by_cases h41:isS s [41] (j,false)=true
  ·rw [if_pos h41] at ih ⊢
   exact ⟨ih.1,fun h=>congrArg (List.cons _) (ih.2 h)⟩
  ·rw [if_neg h41] at ih ⊢
   exact ⟨ih.1,fun h=>congrArg (List.cons _) (ih.2 h)⟩
theorem sim_one {α:Type} {one1 one2:Pl→α × Pl} (q:Pl) (hs:Sim (one1 q) (one2 q)):Sim (oneS one1 s q) (oneS one2 s q):=by
 obtain ⟨e1,e2⟩:=hs
 unfold oneS
 rw [← e1]
 refine ⟨rfl,fun h => ?_⟩
 rw [e2 (wantS_ate h).1]
theorem sim_over {one1 one2:Pl→Cond × Pl} (hs:∀ q:Pl,q.1≤s.length→Sim (one1 q) (one2 q)) (k:Int) (q:Pl) (hq:q.1≤s.length):Sim (overS one1 k s q) (overS one2 k s q):=by
 have h1:=path_fwd hq
 have h2:=want_fwd [32,40] h1.2
 have:=sim_one (s:=s) _ (hs _ h2.2)
 unfold overS
 exact ⟨this.1,fun h=>by dsimp only;rw [this.2 h]⟩
theorem starts_I :∀ (t:Str) (i:Nat),startsAt s t i=true→wantI s t i=(i+t.length,false):=fun t i h=>by
 obtain ⟨r,hr⟩:=starts_iff.1 h
 exact want_of t i hr
theorem want_starts {t:Str} {i:Nat} (h:(wantI s t i).2=false):startsAt s t i=true:=starts_iff.2 ⟨_,(want_ate t i h).drop⟩
theorem num_bad (s:Str) (i:Nat):numS s (i,true)=(0,(i,true)):=by unfold numS;exact if_pos rfl
theorem ends_bad (s:Str) (i:Nat):(endsS s (i,true)).2=(i,true):=by
 unfold endsS
 rw [num_bad,wantS_bad,num_bad]
theorem sim_test (s:Str) (i:Nat) (hi:i≤s.length):Sim (rtestS s (i,false)) (testS s (i,false)):=by
 have h1:=path_fwd (s:=s) (q:=(i,false)) hi
 have h2:=want_fwd (s:=s) [32] h1.2
 unfold rtestS testS
 dsimp only
 generalize wantS s [32] (pathS s (i,false)).2=b at *
 obtain ⟨j,b⟩:=b
 have hj:j≤s.length:=h2.2
 cases b with
 |true=>
  rw [if_pos rfl,if_neg (show ¬ isS s wIn (j,true)=true by rintro h;cases h),if_neg (show ¬ isS s wFrom (j,true)=true by rintro h;cases h)]
  refine ⟨?_,fun h=>by cases h⟩
  dsimp only
  split
  ·rw [wantS_bad]
  ·rw [wantS_bad]
 |false=>
  rw [if_neg (show ¬ (false=true) by decide)]
  dsimp only
  have eIn:isS s wIn (j,false)=startsAt s wIn j:=rfl
  have eFrom:isS s wFrom (j,false)=startsAt s wFrom j:=rfl
  rw [eIn,eFrom]
  have wI:wantS s wIn (j,false)=wantI s wIn j:=rfl
  have wF:wantS s wFrom (j,false)=wantI s wFrom j:=rfl
  rw [wI,wF]
  by_cases h102:s[j]?=some 102
  ·rw [if_pos h102]
   have hnI:startsAt s wIn j=false:=Bool.eq_false_iff.2 fun h=>by
    obtain ⟨r,hr⟩:=starts_iff.1 h
    have:=at_drop (show s.drop j=105::_ from hr)
    rw [h102] at this
    cases this
   rw [hnI,if_neg (by decide)]
   cases hF:startsAt s wFrom j with
   |true=>
    rw [if_pos rfl,starts_I wFrom j hF]
    exact ⟨rfl,fun _=>rfl⟩
   |false=>
    rw [if_neg (by decide)]
    have hb:(wantI s wFrom j).2=true:=by
     cases hb:(wantI s wFrom j).2 with
     |true=>rfl
     |false=>rw [want_starts hb] at hF;cases hF
    have hs:startsAt s [102] j=true:=starts_iff.2 ⟨_,drop_atX h102⟩
    rw [if_pos hs]
    generalize wantI s wFrom j=q at *
    obtain ⟨i3,b3⟩:=q
    dsimp only at hb
    subst hb
    rw [ends_bad]
    exact ⟨rfl,fun h=>by cases h⟩
  ·rw [if_neg h102]
   have hnF:startsAt s wFrom j=false:=Bool.eq_false_iff.2 fun h=>by
    obtain ⟨r,hr⟩:=starts_iff.1 h
    exact h102 (at_drop (show s.drop j=102::_ from hr))
   have hns:startsAt s [102] j=false:=Bool.eq_false_iff.2 fun h=>by
    obtain ⟨r,hr⟩:=starts_iff.1 h
    exact h102 (at_drop (show s.drop j=102::_ from hr))
   cases hI:startsAt s wIn j with
   |true=>
    have hle:=starts_le hI hj
    rw [if_pos rfl,starts_I wIn j hI,if_neg (show ¬ (false=true) by decide)]
    have:=sim_sev (s:=s) (one1:=quoS s) (one2:=quoS s) (fun q _=>Sim.refl _) (fun q hq=>quo_fwd hq) (quo_stays s) (j+4,false) hle (by dsimp only;omega)
    exact ⟨this.1,fun h=>by show Cond.mk _ _ _ _ _ _=_;rw [show j+wIn.length=j+4 from rfl,this.2 h]⟩
   |false=>
    rw [if_neg (show ¬ (false=true) by decide),hnF,if_neg (show ¬ (false=true) by decide),hns]
    have hb:(wantI s wIn j).2=true:=by
     cases hb:(wantI s wIn j).2 with
     |true=>rfl
     |false=>rw [want_starts hb] at hI;cases hI
    rw [if_pos hb,if_neg (show ¬ (false=true) by decide)]
    exact ⟨rfl,fun h=>by dsimp only at h;rw [hb] at h;cases h⟩
theorem pc_stays (n:Nat) (s:Str):Stays (pcS n s):=fun i=>by cases n<;>rfl
theorem sim_rc (s:Str):∀ (n:Nat) (q:Pl),q.1≤s.length→Sim (rcS n s q) (pcS n s q)
 |0,q,_=>Sim.refl _
 |n+1,(i,true),_=>Sim.refl _
 |n+1,(i,false),hi=>by
  have ih:=sim_rc s n
  have hf:=rc_fwd s n
  have hS:∀ q:Pl,q.1≤s.length→1≤q.1→Sim (rsevS (rcS n s) s q) (sevS (pcS n s) s (s.length+1) q):=fun q hq h1=>sim_sev ih hf (pc_stays n s) q hq h1
  have up:∀ {k:Int} {p:Str} {a b:List Cond × Pl},Sim a b→Sim (Cond.mk k a.1 p [] 0 0,a.2) (Cond.mk k b.1 p [] 0 0,b.2):=fun h=>⟨h.1,fun hb=>by dsimp only;rw [h.2 hb]⟩
  unfold rcS pcS
  dsimp only at hi ⊢
  rw [if_neg (show ¬ (false=true) by decide),if_neg (show ¬ (false=true) by decide)]
  split
  ·rename_i h
   exact up (hS (i+4,false) (starts_le h hi) (by dsimp only;omega))
  split
  ·rename_i h
   exact up (hS (i+4,false) (starts_le h hi) (by dsimp only;omega))
  split
  ·rename_i h
   exact up (sim_one _ (ih (i+4,false) (starts_le h hi)))
  split
  ·exact Sim.refl _
  split
  ·exact Sim.refl _
  split
  ·rename_i h
   exact sim_over ih 7 (i+5,false) (starts_le h hi)
  split
  ·rename_i h
   exact sim_over ih 8 (i+5,false) (starts_le h hi)
  ·exact sim_test s i hi
end Go.Proofs.YtindehjiaknokaaGreatDoor
namespace Go.Proofs.YtindehjiaknokaaGreatDoor
set_option linter.unusedSimpArgs false
set_option linter.unusedVariables false
open Go.RowKit
set_option maxRecDepth 100000
end Go.Proofs.YtindehjiaknokaaGreatDoor
