/- The reference reads a condition: all together (walk). -/
import Derived.Test.YtindehjiaknokaaGreatDoorZ35
namespace Go.Proofs.YtindehjiaknokaaGreatDoor
set_option linter.unusedSimpArgs false
set_option linter.unusedVariables false
open Go.RowKit
set_option maxRecDepth 100000
set_option maxHeartbeats 4000000
theorem cond4_3 (s:Str) (i:Nat) (e0:startsAt s wAll i=false) (e1:startsAt s wAny i=false) (e2:startsAt s wNot i=false) (e3:startsAt s wThere i=true) (hi:i≤s.length) (hs:s.length≤100000000):
  SemO Tryz.prog 19 (.obj [.str s,.int .i64 i,.int .i64 (-1)]) [] (.agg (Cond.mk 4 [] (pathS s (i+6,false)).1 [] 0 0).row) (some (.obj [.str s,.int .i64 (pathS s (i+6,false)).2.1,.int .i64 (bI (pathS s (i+6,false)).2)])):=by
 have p0:=passF e0 hi hs (by decide)
 have p1:=passF e1 hi hs (by decide)
 have p2:=passF e2 hi hs (by decide)
 have p3:SemO Tryz.prog 38 (.obj [.str s,.int .i64 i,.int .i64 (-1)]) [.str wThere] (.bool true) (some (.obj [.str s,.int .i64 (i+6:Nat),.int .i64 (-1)])):=passT e3 hi hs (by decide)
 have hle:i+6≤s.length:=starts_le e3 hi
 have c1:=path4_sem s (i+6) hle hs
 unfold rD at c1
 simp only [bI_f] at c1
 generalize pathS s (i+6,false)=r at *
 rw [Cond.row_mk]
 refine sO [0,2,3,4000003,6000056,1000016,1000019,1000020,1000030,1000033,1000034,1000038,1000039,1000040,1000041,1000042,1000044,1000068,1000070,1000072,1000073] Tryz.func19 ?_
 repeat'((conv=>whnf);first|(try(first|apply eN|apply eI|apply eC);conv=>whnf);apply sD;(focus(try intro hc;have hc0:=hc;(try simp only[SPLT]at hc);try refine and0 ?_);first|(refine gx (begin4 ?_ ?_)<;>exact pre)|(refine gx (begins4_sem ?_ ?_ ?_ ?_ ?_)<;>exact pre)|exact sideG)|((with_reducible apply CallO.go);(conv=>whnf);apply sD;(focus first|(apply giveso_g (p0);all_goals exact preO)|(apply giveso_g (p1);all_goals exact preO)|(apply giveso_g (p2);all_goals exact preO)|(apply giveso_g (p3);all_goals exact preO)|(apply giveso_g (c1);all_goals exact preO)))|apply rR|apply rE|apply rH| (apply cD<;>intro hb<;>(try simp only[SPLT]at hb)<;>try exact noB))
 all_goals try exact false
 repeat' ((conv=>whnf);first|exact endR|with_reducible first|apply And.intro|apply oR|apply oN|apply dC)
 all_goals (conv=>whnf)
 (first|refine rle_agg ?_|refine dle_agg ?_|skip)
 repeat' (first|exact endF|exact endF2|with_reducible apply dC|with_reducible apply dle_agg)
theorem cond4_4 (s:Str) (i:Nat) (e0:startsAt s wAll i=false) (e1:startsAt s wAny i=false) (e2:startsAt s wNot i=false) (e3:startsAt s wThere i=false) (e4:startsAt s wCount i=true) (hi:i≤s.length) (hs:s.length≤100000000):
  SemO Tryz.prog 19 (.obj [.str s,.int .i64 i,.int .i64 (-1)]) [] (.agg (countS s (i+6,false)).1.row) (some (.obj [.str s,.int .i64 (countS s (i+6,false)).2.1,.int .i64 (bI (countS s (i+6,false)).2)])):=by
 have p0:=passF e0 hi hs (by decide)
 have p1:=passF e1 hi hs (by decide)
 have p2:=passF e2 hi hs (by decide)
 have p3:=passF e3 hi hs (by decide)
 have p4:SemO Tryz.prog 38 (.obj [.str s,.int .i64 i,.int .i64 (-1)]) [.str wCount] (.bool true) (some (.obj [.str s,.int .i64 (i+6:Nat),.int .i64 (-1)])):=passT e4 hi hs (by decide)
 have hle:i+6≤s.length:=starts_le e4 hi
 have c1:=path4_sem s (i+6) hle hs
 have hf:=path_fwd (s:=s) (q:=(i+6,false)) hle
 have c2:=needs_sem s (32::wFrom) (pathS s (i+6,false)).2 hf.2 hs (by decide)
 have hf2:=want_fwd (32::wFrom) hf.2
 have c3:=span_sem s (wantS s (32::wFrom) (pathS s (i+6,false)).2) 6 (pathS s (i+6,false)).1 0 0 hf2.2 hs
 unfold rD at c1 c2
 unfold countS
 dsimp only
 rw [Cond.row_mk]
 simp only [bI_f] at c1
 generalize wantS s (32::wFrom) (pathS s (i+6,false)).2=q2 at *
 generalize pathS s (i+6,false)=r at *
 generalize endsS s q2=e at *
 refine sO [0,2,3,4000003,6000056,1000016,1000019,1000020,1000030,1000033,1000034,1000038,1000039,1000040,1000041,1000042,1000044,1000068,1000070,1000072,1000073] Tryz.func19 ?_
 repeat'((conv=>whnf);first|(try(first|apply eN|apply eI|apply eC);conv=>whnf);apply sD;(focus(try intro hc;have hc0:=hc;(try simp only[SPLT]at hc);try refine and0 ?_);first|(refine gx (begin4 ?_ ?_)<;>exact pre)|(refine gx (begins4_sem ?_ ?_ ?_ ?_ ?_)<;>exact pre)|exact sideG)|((with_reducible apply CallO.go);(conv=>whnf);apply sD;(focus first|(apply giveso_g (p0);all_goals exact preO)|(apply giveso_g (p1);all_goals exact preO)|(apply giveso_g (p2);all_goals exact preO)|(apply giveso_g (p3);all_goals exact preO)|(apply giveso_g (p4);all_goals exact preO)|(apply giveso_g (c1);all_goals exact preO)|(apply giveso_g (c2);all_goals exact preO)|(apply giveso_g (c3);all_goals exact preO)))|apply rR|apply rE|apply rH| (apply cD<;>intro hb<;>(try simp only[SPLT]at hb)<;>try exact noB))
 all_goals try exact false
 repeat' ((conv=>whnf);first|exact endR|with_reducible first|apply And.intro|apply oR|apply oN|apply dC)
 all_goals (conv=>whnf)
 (first|refine rle_agg ?_|refine dle_agg ?_|skip)
 repeat' (first|exact endF|exact endF2|with_reducible apply dC|with_reducible apply dle_agg)
theorem cond4_5 (n:Nat) (s:Str) (i:Nat) (H:Cond4 n s) (hn:s.length - i < n+1) (e0:startsAt s wAll i=false) (e1:startsAt s wAny i=false) (e2:startsAt s wNot i=false) (e3:startsAt s wThere i=false) (e4:startsAt s wCount i=false) (e5:startsAt s wEach i=true) (hi:i≤s.length) (hs:s.length≤100000000):
  SemO Tryz.prog 19 (.obj [.str s,.int .i64 i,.int .i64 (-1)]) [] (.agg (overS (rcS n s) 7 s (i+5,false)).1.row) (some (.obj [.str s,.int .i64 (overS (rcS n s) 7 s (i+5,false)).2.1,.int .i64 (bI (overS (rcS n s) 7 s (i+5,false)).2)])):=by
 have p0:=passF e0 hi hs (by decide)
 have p1:=passF e1 hi hs (by decide)
 have p2:=passF e2 hi hs (by decide)
 have p3:=passF e3 hi hs (by decide)
 have p4:=passF e4 hi hs (by decide)
 have g5:=begin4 e5 hi
 have g6:Sem Tryz.prog 43 [.ptr [.str s,.int .i64 i,.int .i64 (-1)],.str wSome] (.bool false):=begin4 (Bool.eq_false_iff.2 fun h=>by
  obtain ⟨r1,h1⟩:=starts_iff.1 e5
  obtain ⟨r2,h2⟩:=starts_iff.1 h
  rw [h1] at h2
  have:=(List.cons.inj h2).1
  revert this
  decide) hi
 have hle:i+5≤s.length:=starts_le e5 hi
 have c1:=path4_sem s (i+5) hle hs
 have hf:=path_fwd (s:=s) (q:=(i+5,false)) hle
 have c2:=needs_sem s [32,40] (pathS s (i+5,false)).2 hf.2 hs (by decide)
 have hf2:=hf.trans (want_fwd [32,40] hf.2)
 have hf3:i+5≤(wantS s [32,40] (pathS s (i+5,false)).2).1:=hf2.1
 have c3:=conditions1_sem n s (wantS s [32,40] (pathS s (i+5,false)).2) H (by omega) hf2.2 hs
 unfold rD at c1 c2
 unfold overS
 dsimp only
 rw [Cond.row_mk]
 simp only [bI_f] at c1
 generalize wantS s [32,40] (pathS s (i+5,false)).2=q2 at *
 generalize pathS s (i+5,false)=r at *
 generalize oneS (rcS n s) s q2=e at *
 (try dsimp only at c1)
 simp only [Int.natCast_add] at c1
 refine sO [0,2,3,4000003,6000056,1000016,1000019,1000020,1000030,1000033,1000034,1000038,1000039,1000040,1000041,1000042,1000044,1000068,1000070,1000072,1000073] Tryz.func19 ?_
 repeat'((conv=>whnf);first|(try(first|apply eN|apply eI|apply eC);conv=>whnf);apply sD;(focus(try intro hc;have hc0:=hc;(try simp only[SPLT]at hc);try refine and0 ?_);first|exact gx g5|exact gx g6|(refine gx (begin4 ?_ ?_)<;>exact pre)|(refine gx (begins4_sem ?_ ?_ ?_ ?_ ?_)<;>exact pre)|exact sideG)|((with_reducible apply CallO.go);(conv=>whnf);apply sD;(focus first|(apply giveso_g (p0);all_goals exact preO)|(apply giveso_g (p1);all_goals exact preO)|(apply giveso_g (p2);all_goals exact preO)|(apply giveso_g (p3);all_goals exact preO)|(apply giveso_g (p4);all_goals exact preO)|(apply giveso_g (c1);all_goals exact preO)|(apply giveso_g (c2);all_goals exact preO)|(apply giveso_g (c3);all_goals exact preO)))|apply rR|apply rE|apply rH| (apply cD<;>intro hb<;>(try simp only[SPLT]at hb)<;>try exact noB))
 all_goals try exact false
 repeat' ((conv=>whnf);first|exact endR|with_reducible first|apply And.intro|apply oR|apply oN|apply dC)
 all_goals (conv=>whnf)
 (first|refine rle_agg ?_|refine dle_agg ?_|skip)
 repeat' (first|exact endF|exact endF2|with_reducible apply dC|with_reducible apply dle_agg)
theorem cond4_6 (n:Nat) (s:Str) (i:Nat) (H:Cond4 n s) (hn:s.length - i < n+1) (e0:startsAt s wAll i=false) (e1:startsAt s wAny i=false) (e2:startsAt s wNot i=false) (e3:startsAt s wThere i=false) (e4:startsAt s wCount i=false) (e5:startsAt s wEach i=false) (e6:startsAt s wSome i=true) (hi:i≤s.length) (hs:s.length≤100000000):
  SemO Tryz.prog 19 (.obj [.str s,.int .i64 i,.int .i64 (-1)]) [] (.agg (overS (rcS n s) 8 s (i+5,false)).1.row) (some (.obj [.str s,.int .i64 (overS (rcS n s) 8 s (i+5,false)).2.1,.int .i64 (bI (overS (rcS n s) 8 s (i+5,false)).2)])):=by
 have p0:=passF e0 hi hs (by decide)
 have p1:=passF e1 hi hs (by decide)
 have p2:=passF e2 hi hs (by decide)
 have p3:=passF e3 hi hs (by decide)
 have p4:=passF e4 hi hs (by decide)
 have g5:=begin4 e5 hi
 have g6:=begin4 e6 hi
 have hle:i+5≤s.length:=starts_le e6 hi
 have c1:=path4_sem s (i+5) hle hs
 have hf:=path_fwd (s:=s) (q:=(i+5,false)) hle
 have c2:=needs_sem s [32,40] (pathS s (i+5,false)).2 hf.2 hs (by decide)
 have hf2:=hf.trans (want_fwd [32,40] hf.2)
 have hf3:i+5≤(wantS s [32,40] (pathS s (i+5,false)).2).1:=hf2.1
 have c3:=conditions1_sem n s (wantS s [32,40] (pathS s (i+5,false)).2) H (by omega) hf2.2 hs
 unfold rD at c1 c2
 unfold overS
 dsimp only
 rw [Cond.row_mk]
 simp only [bI_f] at c1
 generalize wantS s [32,40] (pathS s (i+5,false)).2=q2 at *
 generalize pathS s (i+5,false)=r at *
 generalize oneS (rcS n s) s q2=e at *
 (try dsimp only at c1)
 simp only [Int.natCast_add] at c1
 refine sO [0,2,3,4000003,6000056,1000016,1000019,1000020,1000030,1000033,1000034,1000038,1000039,1000040,1000041,1000042,1000044,1000068,1000070,1000072,1000073] Tryz.func19 ?_
 repeat'((conv=>whnf);first|(try(first|apply eN|apply eI|apply eC);conv=>whnf);apply sD;(focus(try intro hc;have hc0:=hc;(try simp only[SPLT]at hc);try refine and0 ?_);first|exact gx g5|exact gx g6|(refine gx (begin4 ?_ ?_)<;>exact pre)|(refine gx (begins4_sem ?_ ?_ ?_ ?_ ?_)<;>exact pre)|exact sideG)|((with_reducible apply CallO.go);(conv=>whnf);apply sD;(focus first|(apply giveso_g (p0);all_goals exact preO)|(apply giveso_g (p1);all_goals exact preO)|(apply giveso_g (p2);all_goals exact preO)|(apply giveso_g (p3);all_goals exact preO)|(apply giveso_g (p4);all_goals exact preO)|(apply giveso_g (c1);all_goals exact preO)|(apply giveso_g (c2);all_goals exact preO)|(apply giveso_g (c3);all_goals exact preO)))|apply rR|apply rE|apply rH| (apply cD<;>intro hb<;>(try simp only[SPLT]at hb)<;>try exact noB))
 all_goals try exact false
 repeat' ((conv=>whnf);first|exact endR|with_reducible first|apply And.intro|apply oR|apply oN|apply dC)
 all_goals (conv=>whnf)
 (first|refine rle_agg ?_|refine dle_agg ?_|skip)
 repeat' (first|exact endF|exact endF2|with_reducible apply dC|with_reducible apply dle_agg)
theorem cond4_7 (s:Str) (i:Nat) (e0:startsAt s wAll i=false) (e1:startsAt s wAny i=false) (e2:startsAt s wNot i=false) (e3:startsAt s wThere i=false) (e4:startsAt s wCount i=false) (e5:startsAt s wEach i=false) (e6:startsAt s wSome i=false) (hi:i≤s.length) (hs:s.length≤100000000):
  SemO Tryz.prog 19 (.obj [.str s,.int .i64 i,.int .i64 (-1)]) [] (.agg (rtestS s (i,false)).1.row) (some (.obj [.str s,.int .i64 (rtestS s (i,false)).2.1,.int .i64 (bI (rtestS s (i,false)).2)])):=by
 have p0:=passF e0 hi hs (by decide)
 have p1:=passF e1 hi hs (by decide)
 have p2:=passF e2 hi hs (by decide)
 have p3:=passF e3 hi hs (by decide)
 have p4:=passF e4 hi hs (by decide)
 have g5:=begin4 e5 hi
 have g6:=begin4 e6 hi
 have c1:=rtest_sem s i hi hs
 generalize rtestS s (i,false)=r at *
 obtain ⟨⟨k0,ks0,pp0,vs0,lo0,hi0⟩,q1⟩:=r
 dsimp only at c1 ⊢
 rw [Cond.row_mk] at c1 ⊢
 refine sO [0,2,3,4000003,6000056,1000016,1000019,1000020,1000030,1000033,1000034,1000038,1000039,1000040,1000041,1000042,1000044,1000068,1000070,1000072,1000073] Tryz.func19 ?_
 repeat'((conv=>whnf);first|(try(first|apply eN|apply eI|apply eC);conv=>whnf);apply sD;(focus(try intro hc;have hc0:=hc;(try simp only[SPLT]at hc);try refine and0 ?_);first|exact gx g5|exact gx g6|(refine gx (begin4 ?_ ?_)<;>exact pre)|(refine gx (begins4_sem ?_ ?_ ?_ ?_ ?_)<;>exact pre)|exact sideG)|((with_reducible apply CallO.go);(conv=>whnf);apply sD;(focus first|(apply giveso_g (p0);all_goals exact preO)|(apply giveso_g (p1);all_goals exact preO)|(apply giveso_g (p2);all_goals exact preO)|(apply giveso_g (p3);all_goals exact preO)|(apply giveso_g (p4);all_goals exact preO)|(apply giveso_g (c1);all_goals exact preO)))|apply rR|apply rE|apply rH| (apply cD<;>intro hb<;>(try simp only[SPLT]at hb)<;>try exact noB))
 all_goals try exact false
 repeat' ((conv=>whnf);first|exact endR|with_reducible first|apply And.intro|apply oR|apply oN|apply dC)
 all_goals (conv=>whnf)
 (first|refine rle_agg ?_|refine dle_agg ?_|skip)
 repeat' (first|exact endF|exact endF2|with_reducible apply dC|with_reducible apply dle_agg)
theorem cond4_sem (s:Str) (hs:s.length≤100000000):∀ n:Nat,Cond4 n s
 |n,(i,true),hi,_=>by
  have e:rcS n s (i,true)=(zeroC,(i,true)):=by cases n<;>rfl
  rw [e]
  exact cond4_t s i
 |0,(i,false),hi,hn=>absurd (hn rfl) (by omega)
 |n+1,(i,false),hi,hn=>by
  have H:=cond4_sem s hs n
  have hn:=hn rfl
  unfold rcS
  dsimp only at hi hn ⊢
  rw [if_neg (show ¬ (false=true) by decide)]
  cases e0:startsAt s wAll i with
  |true=>rw [if_pos rfl];exact cond4_0 n s i H hn e0 hi hs
  |false=>
   rw [if_neg (show ¬ (false=true) by decide)]
   cases e1:startsAt s wAny i with
   |true=>rw [if_pos rfl];exact cond4_1 n s i H hn e0 e1 hi hs
   |false=>
    rw [if_neg (show ¬ (false=true) by decide)]
    cases e2:startsAt s wNot i with
    |true=>rw [if_pos rfl];exact cond4_2 n s i H hn e0 e1 e2 hi hs
    |false=>
     rw [if_neg (show ¬ (false=true) by decide)]
     cases e3:startsAt s wThere i with
     |true=>rw [if_pos rfl];exact cond4_3 s i e0 e1 e2 e3 hi hs
     |false=>
      rw [if_neg (show ¬ (false=true) by decide)]
      cases e4:startsAt s wCount i with
      |true=>rw [if_pos rfl];exact cond4_4 s i e0 e1 e2 e3 e4 hi hs
      |false=>
       rw [if_neg (show ¬ (false=true) by decide)]
       cases e5:startsAt s wEach i with
       |true=>rw [if_pos rfl];exact cond4_5 n s i H hn e0 e1 e2 e3 e4 e5 hi hs
       |false=>
        rw [if_neg (show ¬ (false=true) by decide)]
        cases e6:startsAt s wSome i with
        |true=>rw [if_pos rfl];exact cond4_6 n s i H hn e0 e1 e2 e3 e4 e5 e6 hi hs
        |false=>
         rw [if_neg (show ¬ (false=true) by decide)]
         exact cond4_7 s i e0 e1 e2 e3 e4 e5 e6 hi hs
end Go.Proofs.YtindehjiaknokaaGreatDoor
