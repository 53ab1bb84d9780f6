/- Read is as specified: the law's walk, given that the program reads conditions. Read is as specified: all joined. -/
import Derived.Test.YtindehjiaknokaaGreatDoorZ40
import Derived.Test.YtindehjiaknokaaGreatDoorZ41
import Derived.Test.YtindehjiaknokaaGreatDoorZ29
namespace Go.Proofs.YtindehjiaknokaaGreatDoor
set_option linter.unusedSimpArgs false
set_option linter.unusedVariables false
open Go.RowKit
set_option maxRecDepth 100000
set_option maxHeartbeats 4000000
theorem law25_of (s:Str) (H:s.length≤2000→CondP (s.length+1) s) (hmax:s.length≤9223372036854775807):Sem Tryz.prog 5 [.str s] (.bool true):=by
 have hF:FwdAll s (pcS (s.length+1) s):=pc_fwd _ s fun q hq=>(sim_rc s (s.length+1) q hq).1
 have h1:=readP_sem s H hF hmax
 have h2:=read4P_sem s hmax
 have h7:=awake4_sem
 generalize readN s (pcS (s.length+1) s (0,false))=r at h1 h2
 obtain ⟨⟨k1,ks1,p1,vs1,lo1,hi1⟩,n1,e1⟩:=r
 have h5:=same_sem (.mk k1 ks1 p1 vs1 lo1 hi1) (.mk k1 ks1 p1 vs1 lo1 hi1)
 rw [(Cond.same_iff _ _).2 rfl] at h5
 dsimp only at h1 h2
 rw [Cond.row_mk] at h1 h2 h5
 refine si [3,6,1000016,1000018,1000019,1000020,1000030,1000031,1000032,1000033,1000034,1000036,1000037,1000038,1000039,1000040,1000041,1000042,1000044,1000068,1000070,1000072,1000073] Tryz.func5 ?_
 repeat'((conv=>whnf);first|(try(first|apply eN|apply eI|apply eC);conv=>whnf);apply sD;(focus(try intro hc;have hc0:=hc;(try simp only[SPLT]at hc);try refine and0 ?_);first|exact gx h1|exact gx h2|exact gx h5|exact gx h7|(refine gx (read4P_sem ?_ ?_)<;>exact pre)|(refine gx (readP_sem ?_ ?_ ?_ ?_)<;>exact pre)|(refine gx (read4_sem ?_ ?_ ?_)<;>exact pre)|(refine gx (awake4_sem )<;>exact pre)|exact sideG)|apply rR|apply rE|apply rH| (apply cD<;>intro hb<;>(try simp only[SPLT]at hb)<;>try exact noB))
 all_goals try exact false
 repeat' ((conv=>whnf);first|exact endR|with_reducible first|apply And.intro|apply oR|apply oN|apply dC)
 all_goals (conv=>whnf)
 exact rle_bool (by simp)
theorem condP_sem (s:Str) (hs:s.length≤100000000) (HC:∀ n,CondP n s→CondsP n s) (HT:TestP s):∀ n:Nat,CondP n s
 |n,(i,true),hi,_=>by
  have e:pcS n s (i,true)=(zeroC,(i,true)):=by cases n<;>rfl
  rw [e]
  exact condP_t s i
 |0,(i,false),hi,hn=>absurd (hn rfl) (by omega)
 |n+1,(i,false),hi,hn=>by
  have H:=condP_sem s hs HC HT n
  have hn:=hn rfl
  have hF:FwdAll s (pcS n s):=pc_fwd n s fun q hq=>(sim_rc s n q hq).1
  unfold pcS
  dsimp only at hi hn ⊢
  rw [if_neg (show ¬ (false=true) by decide)]
  cases e0:startsAt s wAll i with
  |true=>rw [if_pos rfl];exact condP_0 n s i H (HC n H) hF hn e0 hi hs
  |false=>
   rw [if_neg (show ¬ (false=true) by decide)]
   cases e1:startsAt s wAny i with
   |true=>rw [if_pos rfl];exact condP_1 n s i H (HC n H) hF hn e0 e1 hi hs
   |false=>
    rw [if_neg (show ¬ (false=true) by decide)]
    cases e2:startsAt s wNot i with
    |true=>rw [if_pos rfl];exact condP_2 n s i H (HC n H) hF hn e0 e1 e2 hi hs
    |false=>
     rw [if_neg (show ¬ (false=true) by decide)]
     cases e3:startsAt s wThere i with
     |true=>rw [if_pos rfl];exact condP_3 s i e0 e1 e2 e3 hi hs
     |false=>
      rw [if_neg (show ¬ (false=true) by decide)]
      cases e4:startsAt s wCount i with
      |true=>rw [if_pos rfl];exact condP_4 s i e0 e1 e2 e3 e4 hi hs
      |false=>
       rw [if_neg (show ¬ (false=true) by decide)]
       cases e5:startsAt s wEach i with
       |true=>rw [if_pos rfl];exact condP_5 n s i H hF hn e0 e1 e2 e3 e4 e5 hi hs
       |false=>
        rw [if_neg (show ¬ (false=true) by decide)]
        cases e6:startsAt s wSome i with
        |true=>rw [if_pos rfl];exact condP_6 n s i H hF hn e0 e1 e2 e3 e4 e5 e6 hi hs
        |false=>
         rw [if_neg (show ¬ (false=true) by decide)]
         exact condP_7 s i HT e0 e1 e2 e3 e4 e5 e6 hi hs
theorem condPr_sem (s:Str) (hs:s.length≤100000000):∀ n:Nat,CondP n s:=condP_sem s hs (fun n H=>conds_sem n s H hs) (test_sem s hs)
theorem law25_sem (s:Str) (hmax:s.length≤9223372036854775807):Sem Tryz.prog 5 [.str s] (.bool true):=
 law25_of s (fun h=>condPr_sem s (by omega) _) hmax
end Go.Proofs.YtindehjiaknokaaGreatDoor
