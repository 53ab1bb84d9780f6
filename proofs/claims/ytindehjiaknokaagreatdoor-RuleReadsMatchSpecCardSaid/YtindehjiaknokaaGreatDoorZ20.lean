/- The reader of conditions: words that must be there (walks). -/
import Derived.Test.YtindehjiaknokaaGreatDoorZ19
namespace Go.Proofs.YtindehjiaknokaaGreatDoor
set_option linter.unusedSimpArgs false
set_option linter.unusedVariables false
open Go.RowKit
set_option maxRecDepth 100000
set_option maxHeartbeats 4000000
theorem wantS_step {s t:Str} {k i:Nat} {c:UInt8} (ht:t[k]?=some c) (hs:s[i]?=some c):wantS s (t.drop (k+1)) (i+1,false)=wantS s (t.drop k) (i,false):=by
 rw [drop_atX ht]
 unfold wantS
 simp only [Bool.false_eq_true,↓reduceIte]
 conv=>rhs;unfold wantI
 rw [if_pos hs]
theorem wantS_stop {s t:Str} {k i:Nat} {c:UInt8} (ht:t[k]?=some c) (hs:s[i]? ≠ some c):wantS s (t.drop k) (i,false)=(i,true):=by
 rw [drop_atX ht]
 unfold wantS
 simp only [Bool.false_eq_true,↓reduceIte]
 unfold wantI
 rw [if_neg hs]
theorem wantS_bad (s t:Str) (i:Nat):wantS s t (i,true)=(i,true):=by unfold wantS;exact if_pos rfl
theorem wantS_nil (s:Str) (q:Pl):wantS s [] q=q:=by
 obtain ⟨i,b⟩:=q
 unfold wantS
 cases b<;>rfl
theorem getD_some {s:Str} {i:Nat} {c:UInt8} (h:s[i]?=some c):s.getD ((i:Int).toNat) 0=c:=by rw [Int.toNat_natCast,List.getD_eq_getElem?_getD,h];rfl
theorem wantI_le {s:Str}:∀ (t:Str) (i:Nat),i≤s.length→i≤(wantI s t i).1∧(wantI s t i).1≤s.length
 |[],i,h=>⟨Nat.le_refl _,h⟩
 |x::t,i,h=>by
  unfold wantI
  split
  ·rename_i hx
   have hlt:i < s.length:=(gLt hx)
   have:=wantI_le t (i+1) hlt
   omega
  ·exact ⟨Nat.le_refl _,h⟩
theorem wantS_le {s t:Str} {q:Pl} (h:q.1≤s.length):q.1≤(wantS s t q).1∧(wantS s t q).1≤s.length:=by
 unfold wantS
 split
 ·exact ⟨Nat.le_refl _,h⟩
 ·exact wantI_le t q.1 h
theorem want_sem (s t:Str) (q:Pl) (hq:q.1≤s.length) (hs:s.length≤100000000) (ht:t.length≤100):
  SemO Tryz.prog 34 (.obj (pC s q)) [.str t] (.tup []) (some (.obj (pC s (wantS s t q)))):=by
 unfold pC
 refine sO [0,6000009,1000016,1000030,1000034] Tryz.func34 ?_
 repeat'((conv=>whnf);first|(try(first|apply eN|apply eI|apply eC);conv=>whnf);apply sD;(focus(try intro hc;have hc0:=hc;(try simp only[SPLT]at hc);try refine and0 ?_);first|exact sideG)|(first|apply dG|apply kB);kernel_rfl|apply rR|apply rE|apply rH| (apply cD<;>intro hb<;>(try simp only[SPLT]at hb)<;>try exact noB))
 all_goals try exact false
 refine loop_go (M:=fun t=>mem t [0,6000009,1000016,1000030,1000034]) hT hM (fun x:Nat × Pl => [(4,.int .i64 x.1),(0,.obj [.str s,.int .i64 x.2.1,.bool x.2.2])]) (fun x=>(x.1≤t.length∧x.2.1≤s.length)∧wantS s (t.drop x.1) x.2=wantS s t q) (fun x=>t.length - x.1) ((0,q)) ?_ ?_ ?_
 ·exact finF
 ·exact ⟨⟨Nat.zero_le _,hq⟩,rfl⟩
 ·rintro ⟨k,i,b⟩ ⟨⟨hk,hi⟩,he⟩
  dsimp only at hk hi he ⊢
  cases hx:t[k]? with
  |none=>
   have hm:=List.getElem?_eq_none_iff.1 hx
   rw [List.drop_of_length_le hm,wantS_nil] at he
   rw [← he]
   dsimp only
   repeat'((conv=>whnf);first|(try(first|apply eN|apply eI|apply eC);conv=>whnf);apply sD;(focus(try intro hc;have hc0:=hc;(try simp only[SPLT]at hc);try refine and0 ?_);first|exact sideG)|(first|apply dG|apply kB);kernel_rfl|apply rR|apply rE|apply rH| (apply cD<;>intro hb<;>(try simp only[SPLT]at hb)<;>try exact noB))
   all_goals try exact false
   exact finR
  |some c=>
   have hlt:=(gLt hx)
   have hcd:=getD_some hx
   cases b with
   |true=>
    rw [wantS_bad] at he
    rw [← he]
    dsimp only
    repeat'((conv=>whnf);first|(try(first|apply eN|apply eI|apply eC);conv=>whnf);apply sD;(focus(try intro hc;have hc0:=hc;(try simp only[SPLT]at hc);try refine and0 ?_);first|exact sideG)|(first|apply dG|apply kB);kernel_rfl|apply rR|apply rE|apply rH| (apply cD<;>intro hb<;>(try simp only[SPLT]at hb)<;>try exact noB))
    all_goals try exact false
    exact finR
   |false=>
    cases hy:s[i]? with
    |none=>
     have hm:=List.getElem?_eq_none_iff.1 hy
     rw [wantS_stop hx (by rw [hy];exact fun h=>by cases h)] at he
     repeat'((conv=>whnf);first|(try(first|apply eN|apply eI|apply eC);conv=>whnf);apply sD;(focus(try intro hc;have hc0:=hc;(try simp only[SPLT]at hc);try refine and0 ?_);first|exact sideG)|(first|apply dG|apply kB);kernel_rfl|apply rR|apply rE|apply rH| ((apply cD)<;>intro hb<;>(try simp only [SPLT] at hb)<;>(try first|exact noB|((exfalso;simp at hb;omega);done))))
     all_goals try exact false
     refine ⟨(k+1,(i,true)),⟨⟨by dsimp only;omega,hi⟩,by rw [← he];exact wantS_bad _ _ _⟩,by dsimp only;omega,?_⟩
     exact finF
    |some d=>
     have hlt2:=(gLt hy)
     have hdd:=getD_some hy
     by_cases hcc:d=c
     ·subst hcc
      rw [← wantS_step hx hy] at he
      repeat'((conv=>whnf);first|(try(first|apply eN|apply eI|apply eC);conv=>whnf);apply sD;(focus(try intro hc;have hc0:=hc;(try simp only[SPLT]at hc);try refine and0 ?_);first|exact sideG)|(first|apply dG|apply kB);kernel_rfl|apply rR|apply rE|apply rH| ((apply cD)<;>intro hb<;>(try simp only [SPLT] at hb)<;>(try first|exact noB|((exfalso;simp at hb;omega);done))))
      all_goals try exact false
      ·refine ⟨(k+1,(i+1,false)),⟨⟨by dsimp only;omega,by dsimp only;omega⟩,he⟩,by dsimp only;omega,?_⟩
       exact finF
      ·exfalso
       rw [hdd,hcd] at hb
       omega
     ·rw [wantS_stop hx (by rw [hy];exact fun h=>hcc (Option.some.inj h))] at he
      repeat'((conv=>whnf);first|(try(first|apply eN|apply eI|apply eC);conv=>whnf);apply sD;(focus(try intro hc;have hc0:=hc;(try simp only[SPLT]at hc);try refine and0 ?_);first|exact sideG)|(first|apply dG|apply kB);kernel_rfl|apply rR|apply rE|apply rH| ((apply cD)<;>intro hb<;>(try simp only [SPLT] at hb)<;>(try first|exact noB|((exfalso;simp at hb;omega);done))))
      all_goals try exact false
      ·exfalso
       rw [hdd,hcd] at hb
       exact hcc (UInt8.toNat_inj.1 (by omega))
      ·refine ⟨(k+1,(i,true)),⟨⟨by dsimp only;omega,hi⟩,by rw [← he];exact wantS_bad _ _ _⟩,by dsimp only;omega,?_⟩
       exact finF
end Go.Proofs.YtindehjiaknokaaGreatDoor
