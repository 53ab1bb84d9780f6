/- The reference's reader: words (walks). -/
import Derived.Test.YtindehjiaknokaaGreatDoorZ20
namespace Go.Proofs.YtindehjiaknokaaGreatDoor
set_option linter.unusedSimpArgs false
set_option linter.unusedVariables false
open Go.RowKit
set_option maxRecDepth 100000
set_option maxHeartbeats 4000000
theorem bI_f (i:Nat):bI (i,false) = -1:=rfl
theorem bI_t (i:Nat):bI (i,true)=i:=rfl
theorem stop_f (s:Str) (i:Nat):SemO Tryz.prog 20 (.obj [.str s,.int .i64 i,.int .i64 (-1)]) [] (.tup []) (some (.obj [.str s,.int .i64 i,.int .i64 i])):=by
 refine sO [0,1000016,1000020,1000030,1000034,1000038,1000041] Tryz.func20 ?_
 repeat'((conv=>whnf);first|(try(first|apply eN|apply eI);conv=>whnf);apply sD;(focus first|exact side)|apply rR|apply rE|apply rH| (apply cD<;>intro hb<;>(try simp only[SPLT]at hb)<;>try exact noB))
 all_goals try exact false
 exact finR
theorem stop_t (s:Str) (i j:Nat):SemO Tryz.prog 20 (.obj [.str s,.int .i64 i,.int .i64 j]) [] (.tup []) (some (.obj [.str s,.int .i64 i,.int .i64 j])):=by
 refine sO [0,1000016,1000020,1000030,1000034,1000038,1000041] Tryz.func20 ?_
 repeat'((conv=>whnf);first|(try(first|apply eN|apply eI);conv=>whnf);apply sD;(focus first|exact side)|apply rR|apply rE|apply rH| (apply cD<;>intro hb<;>(try simp only[SPLT]at hb)<;>try exact noB))
 all_goals try exact false
 exact finR
theorem begins4_sem (s t:Str) (i:Nat) (m:Int) (hi:i≤s.length):Sem Tryz.prog 43 [.ptr [.str s,.int .i64 i,.int .i64 m],.str t] (.bool (startsAt s t i)):=by
 have hp:=prefixAt s t i
 refine si [1000016,1000020,1000030,1000034,1000038,1000041] Tryz.func43 ?_
 repeat'((conv=>whnf);first|(try(first|apply eN|apply eI|apply eC);conv=>whnf);apply sD;(focus first|exact gx hp|(refine gx (prefix_sem ?_ ?_)<;>exact pre)|(refine gx (prefixAt ?_ ?_ ?_)<;>exact pre)|exact side)|(first|apply dG|apply kB);kernel_rfl|apply rR|apply rE|apply rH| (apply cD<;>intro hb<;>(try simp only[SPLT]at hb)<;>try exact noB))
 all_goals try exact false
 exact finR
theorem passes_sem (s t:Str) (q:Pl) (hq:q.1≤s.length) (hs:s.length≤100000000) (ht:t.length≤100):
  SemO Tryz.prog 38 (.obj (rD s q)) [.str t] (.bool (isS s t q)) (some (.obj (rD s (if isS s t q=true then (q.1+t.length,false) else q)))):=by
 obtain ⟨i,b⟩:=q
 dsimp only at hq
 have hb0:=begins4_sem s t i (-1) hq
 have hb1:=begins4_sem s t i i hq
 unfold isS rD
 dsimp only
 generalize startsAt s t i=y at *
 cases b<;>cases y<;>simp only [Bool.not_false,Bool.not_true,Bool.and_true,Bool.and_false,Bool.false_eq_true,↓reduceIte,Int.natCast_add,bI_f,bI_t]
 ·refine sO [0,6000010,1000016,1000020,1000030,1000034,1000038,1000041] Tryz.func38 ?_
  repeat'((conv=>whnf);first|(try(first|apply eN|apply eI|apply eC);conv=>whnf);apply sD;(focus(try intro hc;have hc0:=hc;(try simp only[SPLT]at hc);try refine and0 ?_);first|exact gx hb0|(refine gx (begins4_sem ?_ ?_ ?_ ?_ ?_)<;>exact pre)|exact sideG)|apply rR|apply rE|apply rH| (apply cD<;>intro hb<;>(try simp only[SPLT]at hb)<;>try exact noB))
  all_goals try exact false
  exact finR
 ·refine sO [0,6000010,1000016,1000020,1000030,1000034,1000038,1000041] Tryz.func38 ?_
  repeat'((conv=>whnf);first|(try(first|apply eN|apply eI|apply eC);conv=>whnf);apply sD;(focus(try intro hc;have hc0:=hc;(try simp only[SPLT]at hc);try refine and0 ?_);first|exact gx hb0|(refine gx (begins4_sem ?_ ?_ ?_ ?_ ?_)<;>exact pre)|exact sideG)|apply rR|apply rE|apply rH| (apply cD<;>intro hb<;>(try simp only[SPLT]at hb)<;>try exact noB))
  all_goals try exact false
  exact finR
 ·refine sO [0,6000010,1000016,1000020,1000030,1000034,1000038,1000041] Tryz.func38 ?_
  repeat'((conv=>whnf);first|(try(first|apply eN|apply eI|apply eC);conv=>whnf);apply sD;(focus(try intro hc;have hc0:=hc;(try simp only[SPLT]at hc);try refine and0 ?_);first|exact gx hb1|(refine gx (begins4_sem ?_ ?_ ?_ ?_ ?_)<;>exact pre)|exact sideG)|apply rR|apply rE|apply rH| (apply cD<;>intro hb<;>(try simp only[SPLT]at hb)<;>try exact noB))
  all_goals try exact false
  exact finR
 ·refine sO [0,6000010,1000016,1000020,1000030,1000034,1000038,1000041] Tryz.func38 ?_
  repeat'((conv=>whnf);first|(try(first|apply eN|apply eI|apply eC);conv=>whnf);apply sD;(focus(try intro hc;have hc0:=hc;(try simp only[SPLT]at hc);try refine and0 ?_);first|exact gx hb1|(refine gx (begins4_sem ?_ ?_ ?_ ?_ ?_)<;>exact pre)|exact sideG)|apply rR|apply rE|apply rH| (apply cD<;>intro hb<;>(try simp only[SPLT]at hb)<;>try exact noB))
  all_goals try exact false
  exact finR
theorem needs_sem (s t:Str) (q:Pl) (hq:q.1≤s.length) (hs:s.length≤100000000) (ht:t.length≤100):
  SemO Tryz.prog 41 (.obj (rD s q)) [.str t] (.tup []) (some (.obj (rD s (wantS s t q)))):=by
 unfold rD
 refine sO [0,6000009,1000016,1000020,1000030,1000034,1000038,1000041] Tryz.func41 ?_
 repeat'((conv=>whnf);first|(try(first|apply eN|apply eI|apply eC);conv=>whnf);apply sD;(focus(try intro hc;have hc0:=hc;(try simp only[SPLT]at hc);try refine and0 ?_);first|exact sideG)|((with_reducible apply CallO.go);(conv=>whnf);apply sD;(focus first|(apply giveso_g (stop_f _ _);all_goals exact preO)|(apply giveso_g (stop_t _ _ _);all_goals exact preO)))|(first|apply dG|apply kB);kernel_rfl|apply rR|apply rE|apply rH| (apply cD<;>intro hb<;>(try simp only[SPLT]at hb)<;>try exact noB))
 all_goals try exact false
 refine loop_go (M:=fun t=>mem t [0,6000009,1000016,1000020,1000030,1000034,1000038,1000041]) hT hM (fun x:Nat × Pl => [(4,.int .i64 x.1),(0,.obj [.str s,.int .i64 x.2.1,.int .i64 (bI x.2)])]) (fun x=>(x.1≤t.length∧x.2.1≤s.length)∧wantS s (t.drop x.1) x.2=wantS s t q) (fun x=>t.length - x.1) ((0,q)) ?_ ?_ ?_
 ·exact finF
 ·exact ⟨⟨Nat.zero_le _,hq⟩,rfl⟩
 ·rintro ⟨k,i,b⟩ ⟨⟨hk,hi⟩,he⟩
  dsimp only at hk hi he ⊢
  cases hx:t[k]? with
  |none=>
   have hm:=List.getElem?_eq_none_iff.1 hx
   rw [List.drop_of_length_le hm,wantS_nil] at he
   rw [← he]
   dsimp only
   generalize bI (i,b)=m
   repeat'((conv=>whnf);first|(try(first|apply eN|apply eI|apply eC);conv=>whnf);apply sD;(focus(try intro hc;have hc0:=hc;(try simp only[SPLT]at hc);try refine and0 ?_);first|exact sideG)|((with_reducible apply CallO.go);(conv=>whnf);apply sD;(focus first|(apply giveso_g (stop_f _ _);all_goals exact preO)|(apply giveso_g (stop_t _ _ _);all_goals exact preO)))|(first|apply dG|apply kB);kernel_rfl|apply rR|apply rE|apply rH| (apply cD<;>intro hb<;>(try simp only[SPLT]at hb)<;>try exact noB))
   all_goals try exact false
   exact finR
  |some c=>
   have hlt:=(gLt hx)
   have hcd:=getD_some hx
   cases b with
   |true=>
    rw [wantS_bad] at he
    rw [← he]
    simp only [bI_t]
    repeat'((conv=>whnf);first|(try(first|apply eN|apply eI|apply eC);conv=>whnf);apply sD;(focus(try intro hc;have hc0:=hc;(try simp only[SPLT]at hc);try refine and0 ?_);first|exact sideG)|((with_reducible apply CallO.go);(conv=>whnf);apply sD;(focus first|(apply giveso_g (stop_f _ _);all_goals exact preO)|(apply giveso_g (stop_t _ _ _);all_goals exact preO)))|(first|apply dG|apply kB);kernel_rfl|apply rR|apply rE|apply rH| ((apply cD)<;>intro hb<;>(try simp only [SPLT] at hb)<;>(try first|exact noB|((exfalso;simp at hb;omega);done))))
    all_goals try exact false
    exact finR
   |false=>
    have hst:=stop_f s i
    simp only [bI_f]
    cases hy:s[i]? with
    |none=>
     have hm:=List.getElem?_eq_none_iff.1 hy
     rw [wantS_stop hx (by rw [hy];exact fun h=>by cases h)] at he
     rw [← he]
     simp only [bI_t]
     repeat'((conv=>whnf);first|(try(first|apply eN|apply eI|apply eC);conv=>whnf);apply sD;(focus(try intro hc;have hc0:=hc;(try simp only[SPLT]at hc);try refine and0 ?_);first|exact sideG)|((with_reducible apply CallO.go);(conv=>whnf);apply sD;(focus first|(apply giveso_g (hst);all_goals exact preO)))|(first|apply dG|apply kB);kernel_rfl|apply rR|apply rE|apply rH| ((apply cD)<;>intro hb<;>(try simp only [SPLT] at hb)<;>(try first|exact noB|((exfalso;simp at hb;omega);done))))
     all_goals try exact false
     exact finR
    |some d=>
     have hlt2:=(gLt hy)
     have hdd:=getD_some hy
     by_cases hcc:d=c
     ·subst hcc
      rw [← wantS_step hx hy] at he
      repeat'((conv=>whnf);first|(try(first|apply eN|apply eI|apply eC);conv=>whnf);apply sD;(focus(try intro hc;have hc0:=hc;(try simp only[SPLT]at hc);try refine and0 ?_);first|exact sideG)|((with_reducible apply CallO.go);(conv=>whnf);apply sD;(focus first|(apply giveso_g (hst);all_goals exact preO)))|(first|apply dG|apply kB);kernel_rfl|apply rR|apply rE|apply rH| ((apply cD)<;>intro hb<;>(try simp only [SPLT] at hb)<;>(try first|exact noB|((exfalso;simp at hb;omega);done)|((exfalso;rw [hdd,hcd] at hb;omega);done))))
      all_goals try exact false
      refine ⟨(k+1,(i+1,false)),⟨⟨by dsimp only;omega,by dsimp only;omega⟩,he⟩,by dsimp only;omega,?_⟩
      exact finF
     ·rw [wantS_stop hx (by rw [hy];exact fun h=>hcc (Option.some.inj h))] at he
      rw [← he]
      simp only [bI_t]
      repeat'((conv=>whnf);first|(try(first|apply eN|apply eI|apply eC);conv=>whnf);apply sD;(focus(try intro hc;have hc0:=hc;(try simp only[SPLT]at hc);try refine and0 ?_);first|exact sideG)|((with_reducible apply CallO.go);(conv=>whnf);apply sD;(focus first|(apply giveso_g (hst);all_goals exact preO)))|(first|apply dG|apply kB);kernel_rfl|apply rR|apply rE|apply rH| ((apply cD)<;>intro hb<;>(try simp only [SPLT] at hb)<;>(try first|exact noB|((exfalso;simp at hb;omega);done)|((exfalso;rw [hdd,hcd] at hb;exact hcc (UInt8.toNat_inj.1 (by omega)));done))))
      all_goals try exact false
      exact finR
theorem isDigit_sem (s:Str) (i:Nat) (m:Int) (hs:s.length≤100000000):Sem Tryz.prog 91 [.ptr [.str s,.int .i64 i,.int .i64 m]] (.bool (digAt s i)):=by
 cases hx:s[i]? with
 |none=>
  have hm:=List.getElem?_eq_none_iff.1 hx
  have e:digAt s i=false:=by unfold digAt;rw [hx]
  rw [e]
  refine si [1000016,1000020,1000030,1000034,1000038,1000041] Tryz.func91 ?_
  repeat'((conv=>whnf);first|(try(first|apply eN|apply eI|apply eC);conv=>whnf);apply sD;(focus(try intro hc;have hc0:=hc;(try simp only[SPLT]at hc);try refine and0 ?_);first|exact sideG)|(first|apply dG|apply kB);kernel_rfl|apply rR|apply rE|apply rH| (apply cD<;>intro hb<;>(try simp only[SPLT]at hb)<;>try exact noB))
  all_goals try exact false
  repeat' ((conv=>whnf);first|exact endR|with_reducible first|apply And.intro|apply oR|apply oN|apply dC)
  all_goals (conv=>whnf)
  exact rle_bool (by simp;omega)
 |some c=>
  have hlt:=(gLt hx)
  have e:digAt s i=digByte c:=by unfold digAt;rw [hx]
  rw [e]
  refine si [1000016,1000020,1000030,1000034,1000038,1000041] Tryz.func91 ?_
  repeat'((conv=>whnf);first|(try(first|apply eN|apply eI|apply eC);conv=>whnf);apply sD;(focus(try intro hc;have hc0:=hc;(try simp only[SPLT]at hc);try refine and0 ?_);first|exact sideG)|(first|apply dG|apply kB);kernel_rfl|apply rR|apply rE|apply rH| (apply cD<;>intro hb<;>(try simp only[SPLT]at hb)<;>try exact noB))
  all_goals try exact false
  repeat' ((conv=>whnf);first|exact endR|with_reducible first|apply And.intro|apply oR|apply oN|apply dC)
  all_goals (conv=>whnf)
  have hcd:s.getD ((i:Int).toNat) 0=c:=by rw [Int.toNat_natCast,List.getD_eq_getElem?_getD,hx];rfl
  exact rle_bool (by unfold digByte;rw [hcd,Bool.eq_iff_iff];simp;omega)
end Go.Proofs.YtindehjiaknokaaGreatDoor
