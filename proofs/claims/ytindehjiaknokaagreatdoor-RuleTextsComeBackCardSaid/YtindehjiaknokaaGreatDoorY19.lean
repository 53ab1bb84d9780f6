/- The reader of conditions: paths (walks). -/
import Derived.Test.YtindehjiaknokaaGreatDoorY18
namespace Go.Proofs.YtindehjiaknokaaGreatDoor
set_option linter.unusedSimpArgs false
set_option linter.unusedVariables false
open Go.RowKit
set_option maxRecDepth 100000
set_option maxHeartbeats 4000000
theorem pathEnd_ge (s:Str) (i:Nat):i≤pathEnd s i:=by unfold pathEnd;omega
theorem pathEnd_le {s:Str} {i:Nat} (h:i≤s.length):pathEnd s i≤s.length:=by
 unfold pathEnd
 have:=(List.takeWhile_prefix (p:=fun c => !isStop c) (l:=s.drop i)).length_le
 rw [List.length_drop] at this
 omega
theorem pathEnd_none {s:Str} {i:Nat} (h:s[i]?=none):pathEnd s i=i:=by
 unfold pathEnd
 rw [List.drop_of_length_le (List.getElem?_eq_none_iff.1 h)]
 rfl
theorem pathEnd_stop {s:Str} {i:Nat} {c:UInt8} (h:s[i]?=some c) (hc:isStop c=true):pathEnd s i=i:=by
 unfold pathEnd
 rw [drop_atX h,List.takeWhile_cons,if_neg (by rw [hc];decide)]
 rfl
theorem pathEnd_step {s:Str} {i:Nat} {c:UInt8} (h:s[i]?=some c) (hc:isStop c=false):pathEnd s (i+1)=pathEnd s i:=by
 unfold pathEnd
 rw [drop_atX h,List.takeWhile_cons,if_pos (by rw [hc];rfl),List.length_cons]
 omega
theorem part_cut (s:Str) (i j:Nat):(s.take ((j:Int)).toNat).drop ((i:Int)).toNat=part s i j:=by
 unfold part
 rw [Int.toNat_natCast,Int.toNat_natCast,List.drop_take]
theorem u8b (c:UInt8) : -2147483648≤(c.toNat:Int)∧(c.toNat:Int)≤2147483647:=by have:=c.toNat_lt;omega
theorem path_t (s:Str) (i:Nat) (b:Bool) (hb1:b=true) (hi:i≤s.length) (hs:s.length≤100000000):
  SemO Tryz.prog 33 (.obj [.str s,.int .i64 i,.bool b]) [] (.str []) (some (.obj [.str s,.int .i64 i,.bool true])):=by
 refine sO [0,1000016,1000020,1000030,1000033,1000034,1000038,1000040,1000041] Tryz.func33 ?_
 repeat'((conv=>whnf);first|(try(first|apply eN|apply eI|apply eT|apply eC);conv=>whnf);apply sD;(focus(try intro hc;have hc0:=hc;(try simp only[SPLT]at hc);try refine and0 ?_);first|(refine gx (containsRune_sem ?_)<;>exact pre)|exact sideG)|(first|apply dG|apply kB);kernel_rfl|apply rR|apply rE|apply rH| (apply cD<;>intro hb<;>(try simp only[SPLT]at hb)<;>try exact noB))
 all_goals try exact false
 refine loop_go (M:=fun t=>mem t [0,1000016,1000020,1000030,1000033,1000034,1000038,1000040,1000041]) hT hM (fun j:Nat => [(0,.obj [.str s,.int .i64 j,.bool b])]) (fun j=>j=i) (fun j=>0) (i) ?_ ?_ ?_
 ·exact finF
 ·rfl
 ·rintro j rfl
  repeat'((conv=>whnf);first|(try(first|apply eN|apply eI|apply eT|apply eC);conv=>whnf);apply sD;(focus(try intro hc;have hc0:=hc;(try simp only[SPLT]at hc);try refine and0 ?_);first|(exact IntWalk.i32_in _ (u8b _))|(refine gx (containsRune_sem (s.getD ((j:Int).toNat) 0))<;>exact pre)|exact sideG)|(first|apply dG|apply kB);kernel_rfl|apply rR|apply rE|apply rH| ((apply cD)<;>intro hb<;>(try simp only [SPLT] at hb)<;>(try first|exact noB|((exfalso;rw [hb1] at hb;simp at hb;done);done))))
  all_goals try exact false
  ·repeat' ((conv=>whnf);first|exact endR|with_reducible first|apply And.intro|apply oR|apply oN|apply dC)
   all_goals (conv=>whnf)
   exact rle_str (by rw [part_cut];unfold part;simp)
theorem path_f (s:Str) (i:Nat) (hi:i≤s.length) (hs:s.length≤100000000):
  SemO Tryz.prog 33 (.obj [.str s,.int .i64 i,.bool false]) [] (.str (part s i (pathEnd s i))) (some (.obj [.str s,.int .i64 (pathEnd s i),.bool (pathEnd s i == i)])):=by
 refine sO [0,1000016,1000020,1000030,1000033,1000034,1000038,1000040,1000041] Tryz.func33 ?_
 repeat'((conv=>whnf);first|(try(first|apply eN|apply eI|apply eT|apply eC);conv=>whnf);apply sD;(focus(try intro hc;have hc0:=hc;(try simp only[SPLT]at hc);try refine and0 ?_);first|(refine gx (containsRune_sem ?_)<;>exact pre)|exact sideG)|(first|apply dG|apply kB);kernel_rfl|apply rR|apply rE|apply rH| (apply cD<;>intro hb<;>(try simp only[SPLT]at hb)<;>try exact noB))
 all_goals try exact false
 refine loop_go (M:=fun t=>mem t [0,1000016,1000020,1000030,1000033,1000034,1000038,1000040,1000041]) hT hM (fun j:Nat => [(0,.obj [.str s,.int .i64 j,.bool false])]) (fun j=>(i≤j∧j≤s.length)∧pathEnd s j=pathEnd s i) (fun j=>s.length - j) (i) ?_ ?_ ?_
 ·exact finF
 ·exact ⟨⟨Nat.le_refl _,hi⟩,rfl⟩
 ·rintro j ⟨⟨hij,hj⟩,he⟩
  cases hx:s[j]? with
  |none=>
   have hm:=List.getElem?_eq_none_iff.1 hx
   rw [pathEnd_none hx] at he
   rw [← he]
   repeat'((conv=>whnf);first|(try(first|apply eN|apply eI|apply eT|apply eC);conv=>whnf);apply sD;(focus(try intro hc;have hc0:=hc;(try simp only[SPLT]at hc);try refine and0 ?_);first|(exact IntWalk.i32_in _ (u8b _))|(refine gx (containsRune_sem (s.getD ((j:Int).toNat) 0))<;>exact pre)|exact sideG)|(first|apply dG|apply kB);kernel_rfl|apply rR|apply rE|apply rH| (apply cD<;>intro hb<;>(try simp only[SPLT]at hb)<;>try exact noB))
   all_goals try exact false
   ·repeat' ((conv=>whnf);first|exact endR|with_reducible first|apply And.intro|apply oR|apply oN|apply dC)
    all_goals (conv=>whnf)
    ·exact rle_str (part_cut s i j)
    ·exact dle_bool (by rw [eq_comm,beq_iff_eq];omega)
   ·repeat' ((conv=>whnf);first|exact endR|with_reducible first|apply And.intro|apply oR|apply oN|apply dC)
    all_goals (conv=>whnf)
    ·exact rle_str (part_cut s i j)
    ·exact dle_bool (by rw [eq_comm,beq_eq_false_iff_ne];omega)
  |some c=>
   have hlt:=(gLt hx)
   have hcr:Sem Tryz.prog 67 [.str stops,.int .i32 (s.getD ((j:Int).toNat) 0).toNat] (.bool (isStop c)):=by
    have:=containsRune_sem (s.getD ((j:Int).toNat) 0)
    rwa [show isStop (s.getD ((j:Int).toNat) 0)=isStop c by rw [getD_some hx]] at this
   cases hc:isStop c with
   |true=>
    rw [hc] at hcr
    rw [pathEnd_stop hx hc] at he
    rw [← he]
    repeat'((conv=>whnf);first|(try(first|apply eN|apply eI|apply eT|apply eC);conv=>whnf);apply sD;(focus(try intro hc;have hc0:=hc;(try simp only[SPLT]at hc);try refine and0 ?_);first|(exact IntWalk.i32_in _ (u8b _))|exact gx hcr|(refine gx (containsRune_sem ?_)<;>exact pre)|exact sideG)|(first|apply dG|apply kB);kernel_rfl|apply rR|apply rE|apply rH| (apply cD<;>intro hb<;>(try simp only[SPLT]at hb)<;>try exact noB))
    all_goals try exact false
    ·repeat' ((conv=>whnf);first|exact endR|with_reducible first|apply And.intro|apply oR|apply oN|apply dC)
     all_goals (conv=>whnf)
     ·exact rle_str (part_cut s i j)
     ·exact dle_bool (by rw [eq_comm,beq_iff_eq];omega)
    ·repeat' ((conv=>whnf);first|exact endR|with_reducible first|apply And.intro|apply oR|apply oN|apply dC)
     all_goals (conv=>whnf)
     ·exact rle_str (part_cut s i j)
     ·exact dle_bool (by rw [eq_comm,beq_eq_false_iff_ne];omega)
   |false=>
    rw [hc] at hcr
    rw [← pathEnd_step hx hc] at he
    repeat'((conv=>whnf);first|(try(first|apply eN|apply eI|apply eT|apply eC);conv=>whnf);apply sD;(focus(try intro hc;have hc0:=hc;(try simp only[SPLT]at hc);try refine and0 ?_);first|(exact IntWalk.i32_in _ (u8b _))|exact gx hcr|(refine gx (containsRune_sem ?_)<;>exact pre)|exact sideG)|(first|apply dG|apply kB);kernel_rfl|apply rR|apply rE|apply rH| ((apply cD)<;>intro hb<;>(try simp only [SPLT] at hb)<;>(try first|exact noB|((exfalso;simp at hb;omega);done))))
    all_goals try exact false
    refine ⟨j+1,⟨⟨by omega,by omega⟩,he⟩,by omega,?_⟩
    exact finF
theorem path_sem (s:Str) (q:Pl) (hq:q.1≤s.length) (hs:s.length≤100000000):
  SemO Tryz.prog 33 (.obj (pC s q)) [] (.str (pathS s q).1) (some (.obj (pC s (pathS s q).2))):=by
 obtain ⟨i,b⟩:=q
 cases b with
 |true=>exact path_t s i true rfl hq hs
 |false=>exact path_f s i hq hs
end Go.Proofs.YtindehjiaknokaaGreatDoor
