/- Read is as specified: the law's walk, given that the program reads conditions. Read is as specified: all joined. -/
import Derived.Test.YtindehjiaknokaaGreatDoorY26
import Derived.Test.YtindehjiaknokaaGreatDoorY29
import Derived.Test.YtindehjiaknokaaGreatDoorY28
namespace Go.Proofs.YtindehjiaknokaaGreatDoor
set_option linter.unusedSimpArgs false
set_option linter.unusedVariables false
open Go.RowKit
set_option maxRecDepth 100000
set_option maxHeartbeats 4000000
theorem condP_sem (s:Str) (hs:s.length≤100000000) (HC:∀ n,CondP n s→CondsP n s) (HT:TestP s):∀ n:Nat,CondP n s
 |n,(i,true),hi,_=>by
  have e:pcS n s (i,true)=(zeroC,(i,true)):=by cases n<;>rfl
  rw [e]
  exact condP_t s i
 |0,(i,false),hi,hn=>absurd (hn rfl) (by omega)
 |n+1,(i,false),hi,hn=>by
  have H:=condP_sem s hs HC HT n
  have hn:=hn rfl
  have hF:FwdAll s (pcS n s):=pc_fwd n s fun q hq=>(sim_rc s n q hq).1
  unfold pcS
  dsimp only at hi hn ⊢
  rw [if_neg (show ¬ (false=true) by decide)]
  cases e0:startsAt s wAll i with
  |true=>rw [if_pos rfl];exact condP_0 n s i H (HC n H) hF hn e0 hi hs
  |false=>
   rw [if_neg (show ¬ (false=true) by decide)]
   cases e1:startsAt s wAny i with
   |true=>rw [if_pos rfl];exact condP_1 n s i H (HC n H) hF hn e0 e1 hi hs
   |false=>
    rw [if_neg (show ¬ (false=true) by decide)]
    cases e2:startsAt s wNot i with
    |true=>rw [if_pos rfl];exact condP_2 n s i H (HC n H) hF hn e0 e1 e2 hi hs
    |false=>
     rw [if_neg (show ¬ (false=true) by decide)]
     cases e3:startsAt s wThere i with
     |true=>rw [if_pos rfl];exact condP_3 s i e0 e1 e2 e3 hi hs
     |false=>
      rw [if_neg (show ¬ (false=true) by decide)]
      cases e4:startsAt s wCount i with
      |true=>rw [if_pos rfl];exact condP_4 s i e0 e1 e2 e3 e4 hi hs
      |false=>
       rw [if_neg (show ¬ (false=true) by decide)]
       cases e5:startsAt s wEach i with
       |true=>rw [if_pos rfl];exact condP_5 n s i H hF hn e0 e1 e2 e3 e4 e5 hi hs
       |false=>
        rw [if_neg (show ¬ (false=true) by decide)]
        cases e6:startsAt s wSome i with
        |true=>rw [if_pos rfl];exact condP_6 n s i H hF hn e0 e1 e2 e3 e4 e5 e6 hi hs
        |false=>
         rw [if_neg (show ¬ (false=true) by decide)]
         exact condP_7 s i HT e0 e1 e2 e3 e4 e5 e6 hi hs
theorem condPr_sem (s:Str) (hs:s.length≤100000000):∀ n:Nat,CondP n s:=condP_sem s hs (fun n H=>conds_sem n s H hs) (test_sem s hs)
theorem readP (s:Str) (hmax:s.length≤9223372036854775807):
  Sem Tryz.prog 11 [.str s] (.tup [.agg (readN s (pcS (s.length+1) s (0,false))).1.row,.int .i64 (readN s (pcS (s.length+1) s (0,false))).2.1,.int .i64 (readN s (pcS (s.length+1) s (0,false))).2.2]):=
 readP_sem s (fun h=>condPr_sem s (by omega) _) (pc_fwd _ s fun q hq=>(sim_rc s (s.length+1) q hq).1) hmax
end Go.Proofs.YtindehjiaknokaaGreatDoor
