/- The reference reads a condition (walk). -/
import Derived.Test.YtindehjiaknokaaGreatDoorZ34
namespace Go.Proofs.YtindehjiaknokaaGreatDoor
set_option linter.unusedSimpArgs false
set_option linter.unusedVariables false
open Go.RowKit
set_option maxRecDepth 100000
set_option maxHeartbeats 4000000
theorem passF {s t:Str} {i:Nat} (h:startsAt s t i=false) (hi:i≤s.length) (hs:s.length≤100000000) (ht:t.length≤100):
  SemO Tryz.prog 38 (.obj [.str s,.int .i64 i,.int .i64 (-1)]) [.str t] (.bool false) (some (.obj [.str s,.int .i64 i,.int .i64 (-1)])):=
 passes_gen s t i i false h (by rw [h];rfl) hi hs ht
theorem passT {s t:Str} {i:Nat} (h:startsAt s t i=true) (hi:i≤s.length) (hs:s.length≤100000000) (ht:t.length≤100):
  SemO Tryz.prog 38 (.obj [.str s,.int .i64 i,.int .i64 (-1)]) [.str t] (.bool true) (some (.obj [.str s,.int .i64 (i+t.length:Nat),.int .i64 (-1)])):=
 passes_gen s t i (i+t.length) true h (by rw [h];rfl) hi hs ht
theorem begin4 {s t:Str} {i:Nat} {b:Bool} (h:startsAt s t i=b) (hi:i≤s.length):Sem Tryz.prog 43 [.ptr [.str s,.int .i64 i,.int .i64 (-1)],.str t] (.bool b):=h ▸ begins4_sem s t i (-1) hi
theorem cond4_t (s:Str) (i:Nat):SemO Tryz.prog 19 (.obj [.str s,.int .i64 i,.int .i64 i]) [] (.agg zeroC.row) (some (.obj [.str s,.int .i64 i,.int .i64 i])):=by
 unfold zeroC
 rw [Cond.row_mk]
 refine sO [0,2,3,4000003,6000056,1000016,1000019,1000020,1000030,1000033,1000034,1000038,1000039,1000040,1000041,1000042,1000044,1000068,1000070,1000072,1000073] Tryz.func19 ?_
 repeat'((conv=>whnf);first|(try(first|apply eN|apply eI|apply eC);conv=>whnf);apply sD;(focus(try intro hc;have hc0:=hc;(try simp only[SPLT]at hc);try refine and0 ?_);first|(refine gx (begin4 ?_ ?_)<;>exact pre)|(refine gx (begins4_sem ?_ ?_ ?_ ?_ ?_)<;>exact pre)|exact sideG)|((with_reducible apply CallO.go);(conv=>whnf);apply sD;(focus first|(apply giveso_g (passF _ _ _ _);all_goals exact preO)|(apply giveso_g (passT _ _ _ _);all_goals exact preO)|(apply giveso_g (passes_gen _ _ _ _ _ _ _ _ _ _);all_goals exact preO)|(apply giveso_g (passes_sem _ _ _ _ _ _);all_goals exact preO)|(apply giveso_g (conditions1_sem _ _ _ _ _ _ _);all_goals exact preO)|(apply giveso_g (conditions_sem _ _ _ _ _ _ _);all_goals exact preO)|(apply giveso_g (path4_sem _ _ _ _);all_goals exact preO)|(apply giveso_g (needs_sem _ _ _ _ _ _);all_goals exact preO)|(apply giveso_g (span_sem _ _ _ _ _ _ _ _);all_goals exact preO)|(apply giveso_g (test4_d _ _ _ _ _ _ _ _ _ _ _ _);all_goals exact preO)|(apply giveso_g (rtest_sem _ _ _ _);all_goals exact preO)|(apply giveso_g (test4_a _ _ _ _ _ _ _ _ _ _);all_goals exact preO)|(apply giveso_g (test4_b _ _ _ _ _ _ _ _ _ _ _ _);all_goals exact preO)|(apply giveso_g (test4_c _ _ _ _ _ _ _ _ _ _ _ _ _);all_goals exact preO)))|apply rR|apply rE|apply rH| (apply cD<;>intro hb<;>(try simp only[SPLT]at hb)<;>try exact noB))
 all_goals try exact false
 repeat' ((conv=>whnf);first|exact endR|with_reducible first|apply And.intro|apply oR|apply oN|apply dC)
 all_goals (conv=>whnf)
 (first|refine rle_agg ?_|refine dle_agg ?_|skip)
 repeat' (first|exact endF|exact endF2|with_reducible apply dC|with_reducible apply dle_agg)
theorem cond4_0 (n:Nat) (s:Str) (i:Nat) (H:Cond4 n s) (hn:s.length - i < n+1)  (e0:startsAt s wAll i=true) (hi:i≤s.length) (hs:s.length≤100000000):
  SemO Tryz.prog 19 (.obj [.str s,.int .i64 i,.int .i64 (-1)]) [] (.agg (Cond.mk 1 (rsevS (rcS n s) s (i+4,false)).1 [] [] 0 0).row) (some (.obj [.str s,.int .i64 (rsevS (rcS n s) s (i+4,false)).2.1,.int .i64 (bI (rsevS (rcS n s) s (i+4,false)).2)])):=by
 have p0:=passT e0 hi hs (by decide)
 have hle:=starts_le e0 hi
 have hle:i+4≤s.length:=hle
 have c1:=conditions_sem n s (i+4,false) H (by dsimp only;omega) hle hs
 generalize rsevS (rcS n s) s (i+4,false)=r at *
 obtain ⟨l,q1⟩:=r
 dsimp only at c1 ⊢
 simp only [bI_f] at c1
 rw [Cond.row_mk]
 have p0:SemO Tryz.prog 38 (.obj [.str s,.int .i64 i,.int .i64 (-1)]) [.str wAll] (.bool true) (some (.obj [.str s,.int .i64 (i+4:Nat),.int .i64 (-1)])):=p0
 refine sO [0,2,3,4000003,6000056,1000016,1000019,1000020,1000030,1000033,1000034,1000038,1000039,1000040,1000041,1000042,1000044,1000068,1000070,1000072,1000073] Tryz.func19 ?_
 repeat'((conv=>whnf);first|(try(first|apply eN|apply eI|apply eC);conv=>whnf);apply sD;(focus(try intro hc;have hc0:=hc;(try simp only[SPLT]at hc);try refine and0 ?_);first|(refine gx (begin4 ?_ ?_)<;>exact pre)|(refine gx (begins4_sem ?_ ?_ ?_ ?_ ?_)<;>exact pre)|exact sideG)|((with_reducible apply CallO.go);(conv=>whnf);apply sD;(focus first|(apply giveso_g (p0);all_goals exact preO)|(apply giveso_g (c1);all_goals exact preO)))|apply rR|apply rE|apply rH| (apply cD<;>intro hb<;>(try simp only[SPLT]at hb)<;>try exact noB))
 all_goals try exact false
 repeat' ((conv=>whnf);first|exact endR|with_reducible first|apply And.intro|apply oR|apply oN|apply dC)
 all_goals (conv=>whnf)
 (first|refine rle_agg ?_|refine dle_agg ?_|skip)
 repeat' (first|exact endF|exact endF2|with_reducible apply dC|with_reducible apply dle_agg)
theorem cond4_1 (n:Nat) (s:Str) (i:Nat) (H:Cond4 n s) (hn:s.length - i < n+1) (e0:startsAt s wAll i=false) (e1:startsAt s wAny i=true) (hi:i≤s.length) (hs:s.length≤100000000):
  SemO Tryz.prog 19 (.obj [.str s,.int .i64 i,.int .i64 (-1)]) [] (.agg (Cond.mk 2 (rsevS (rcS n s) s (i+4,false)).1 [] [] 0 0).row) (some (.obj [.str s,.int .i64 (rsevS (rcS n s) s (i+4,false)).2.1,.int .i64 (bI (rsevS (rcS n s) s (i+4,false)).2)])):=by
 have p0:=passF e0 hi hs (by decide)
 have p1:=passT e1 hi hs (by decide)
 have hle:=starts_le e1 hi
 have hle:i+4≤s.length:=hle
 have c1:=conditions_sem n s (i+4,false) H (by dsimp only;omega) hle hs
 generalize rsevS (rcS n s) s (i+4,false)=r at *
 obtain ⟨l,q1⟩:=r
 dsimp only at c1 ⊢
 simp only [bI_f] at c1
 rw [Cond.row_mk]
 have p1:SemO Tryz.prog 38 (.obj [.str s,.int .i64 i,.int .i64 (-1)]) [.str wAny] (.bool true) (some (.obj [.str s,.int .i64 (i+4:Nat),.int .i64 (-1)])):=p1
 refine sO [0,2,3,4000003,6000056,1000016,1000019,1000020,1000030,1000033,1000034,1000038,1000039,1000040,1000041,1000042,1000044,1000068,1000070,1000072,1000073] Tryz.func19 ?_
 repeat'((conv=>whnf);first|(try(first|apply eN|apply eI|apply eC);conv=>whnf);apply sD;(focus(try intro hc;have hc0:=hc;(try simp only[SPLT]at hc);try refine and0 ?_);first|(refine gx (begin4 ?_ ?_)<;>exact pre)|(refine gx (begins4_sem ?_ ?_ ?_ ?_ ?_)<;>exact pre)|exact sideG)|((with_reducible apply CallO.go);(conv=>whnf);apply sD;(focus first|(apply giveso_g (p0);all_goals exact preO)|(apply giveso_g (p1);all_goals exact preO)|(apply giveso_g (c1);all_goals exact preO)))|apply rR|apply rE|apply rH| (apply cD<;>intro hb<;>(try simp only[SPLT]at hb)<;>try exact noB))
 all_goals try exact false
 repeat' ((conv=>whnf);first|exact endR|with_reducible first|apply And.intro|apply oR|apply oN|apply dC)
 all_goals (conv=>whnf)
 (first|refine rle_agg ?_|refine dle_agg ?_|skip)
 repeat' (first|exact endF|exact endF2|with_reducible apply dC|with_reducible apply dle_agg)
theorem cond4_2 (n:Nat) (s:Str) (i:Nat) (H:Cond4 n s) (hn:s.length - i < n+1) (e0:startsAt s wAll i=false) (e1:startsAt s wAny i=false) (e2:startsAt s wNot i=true) (hi:i≤s.length) (hs:s.length≤100000000):
  SemO Tryz.prog 19 (.obj [.str s,.int .i64 i,.int .i64 (-1)]) [] (.agg (Cond.mk 3 (oneS (rcS n s) s (i+4,false)).1 [] [] 0 0).row) (some (.obj [.str s,.int .i64 (oneS (rcS n s) s (i+4,false)).2.1,.int .i64 (bI (oneS (rcS n s) s (i+4,false)).2)])):=by
 have p0:=passF e0 hi hs (by decide)
 have p1:=passF e1 hi hs (by decide)
 have p2:=passT e2 hi hs (by decide)
 have hle:=starts_le e2 hi
 have hle:i+4≤s.length:=hle
 have c1:=conditions1_sem n s (i+4,false) H (by dsimp only;omega) hle hs
 generalize oneS (rcS n s) s (i+4,false)=r at *
 obtain ⟨l,q1⟩:=r
 dsimp only at c1 ⊢
 simp only [bI_f] at c1
 rw [Cond.row_mk]
 have p2:SemO Tryz.prog 38 (.obj [.str s,.int .i64 i,.int .i64 (-1)]) [.str wNot] (.bool true) (some (.obj [.str s,.int .i64 (i+4:Nat),.int .i64 (-1)])):=p2
 refine sO [0,2,3,4000003,6000056,1000016,1000019,1000020,1000030,1000033,1000034,1000038,1000039,1000040,1000041,1000042,1000044,1000068,1000070,1000072,1000073] Tryz.func19 ?_
 repeat'((conv=>whnf);first|(try(first|apply eN|apply eI|apply eC);conv=>whnf);apply sD;(focus(try intro hc;have hc0:=hc;(try simp only[SPLT]at hc);try refine and0 ?_);first|(refine gx (begin4 ?_ ?_)<;>exact pre)|(refine gx (begins4_sem ?_ ?_ ?_ ?_ ?_)<;>exact pre)|exact sideG)|((with_reducible apply CallO.go);(conv=>whnf);apply sD;(focus first|(apply giveso_g (p0);all_goals exact preO)|(apply giveso_g (p1);all_goals exact preO)|(apply giveso_g (p2);all_goals exact preO)|(apply giveso_g (c1);all_goals exact preO)))|apply rR|apply rE|apply rH| (apply cD<;>intro hb<;>(try simp only[SPLT]at hb)<;>try exact noB))
 all_goals try exact false
 repeat' ((conv=>whnf);first|exact endR|with_reducible first|apply And.intro|apply oR|apply oN|apply dC)
 all_goals (conv=>whnf)
 (first|refine rle_agg ?_|refine dle_agg ?_|skip)
 repeat' (first|exact endF|exact endF2|with_reducible apply dC|with_reducible apply dle_agg)
end Go.Proofs.YtindehjiaknokaaGreatDoor
