/- The reference reads a condition that begins with a path (walk). -/
import Derived.Test.YtindehjiaknokaaGreatDoorZ32
namespace Go.Proofs.YtindehjiaknokaaGreatDoor
set_option linter.unusedSimpArgs false
set_option linter.unusedVariables false
open Go.RowKit
set_option maxRecDepth 100000
set_option maxHeartbeats 4000000
def idl44_16:List (List Bool) := [[b0,b0,b0,b0,b0,b0,b0,b0],[b1,b0,b0,b0,b0,b0,b0,b0],[b0,b0,b1,b0,b0,b0,b0,b0],[b1,b1,b0,b0,b0,b0,b0,b0],[b1,b0,b1,b0,b0,b0,b0,b0],[b0,b0,b1,b1,b0,b0,b0,b0],[b1,b1,b1,b0,b0,b0,b0,b0],[b1,b0,b1,b1,b0,b0,b0,b0],[b0,b0,b1,b1,b1,b0,b0,b0],[b1,b1,b1,b1,b0,b0,b0,b0],[b1,b0,b1,b1,b1,b0,b0,b0],[b1,b1,b1,b1,b1,b0,b0,b0],[b1,b1,b1,b1,b1,b1,b0,b0],[b1,b1,b1,b1,b1,b1,b1,b0],[b1,b1,b1,b1,b1,b1,b1,b1]]
theorem span_sem (s:Str) (q:Pl) (k:Int) (p:Str) (lo hi:Int) (hq:q.1≤s.length) (hs:s.length≤100000000):
  SemO Tryz.prog 42 (.obj [.str s,.int .i64 q.1,.int .i64 (bI q)]) [.agg [.int .i64 k,.nil,.str p,.nil,.int .i64 lo,.int .i64 hi]]
   (.agg [.int .i64 k,.nil,.str p,.nil,.int .i64 (endsS s q).1.1,.int .i64 (endsS s q).1.2]) (some (.obj [.str s,.int .i64 (endsS s q).2.1,.int .i64 (bI (endsS s q).2)])):=by
 have h1:=num_fwd hq
 have h2:=want_fwd [32,116,111,32] h1.2
 have c1:=number4_sem s q hq hs
 have c2:=needs_sem s [32,116,111,32] (numS s q).2 h1.2 hs (by decide)
 have c3:=number4_sem s (wantS s [32,116,111,32] (numS s q).2) h2.2 hs
 unfold rD at c1 c2 c3
 unfold endsS
 dsimp only
 generalize wantS s [32,116,111,32] (numS s q).2=q2 at *
 generalize numS s q2=r3 at *
 generalize numS s q=r1 at *
 refine sO [0,3,4,1000016,1000019,1000020,1000030,1000033,1000034,1000038,1000039,1000040,1000041,1000042,1000044,1000068,1000070,1000072,1000073] Tryz.func42 ?_
 repeat'((conv=>whnf);first|(try(first|apply eN|apply eI|apply eC);conv=>whnf);apply sD;(focus first|exact side)|((with_reducible apply CallO.go);(conv=>whnf);apply sD;(focus first|(apply giveso_g (c1);all_goals exact preO)|(apply giveso_g (c2);all_goals exact preO)|(apply giveso_g (c3);all_goals exact preO)))|apply rR|apply rE|apply rH| (apply cD<;>intro hb<;>(try simp only[SPLT]at hb)<;>try exact noB))
 all_goals try exact false
 repeat' ((conv=>whnf);first|exact endR|with_reducible first|apply And.intro|apply oR|apply oN|apply dC)
 all_goals (conv=>whnf)
 (first|refine rle_agg ?_|refine dle_agg ?_|skip)
 repeat' (first|exact endF|exact endF2|with_reducible apply dC|with_reducible apply dle_agg)
theorem test4_a (s:Str) (i:Nat) (p:Str) (q1 q2:Pl) (hp:pathS s (i,false)=(p,q1)) (h2:wantS s [32] q1=q2) (hb2:q2.2=true) (hi:i≤s.length) (hs:s.length≤100000000):
  SemO Tryz.prog 44 (.obj [.str s,.int .i64 i,.int .i64 (-1)]) [] (.agg (Cond.mk 0 [] p [] 0 0).row) (some (.obj [.str s,.int .i64 q2.1,.int .i64 (bI q2)])):=by
 have hf:=path_fwd (s:=s) (q:=(i,false)) hi
 have c1:=path4_sem s i hi hs
 rw [hp] at c1 hf
 have c2:=needs_sem s [32] q1 hf.2 hs (by decide)
 rw [h2] at c2
 unfold rD at c1 c2
 have hB:bI q2=q2.1:=by unfold bI;rw [if_pos hb2]
 dsimp only at c1
 simp only [bI_f,hB,Cond.row_mk,List.map_nil] at c1 c2 ⊢
 refine sO [0,2,3,4000003,5000016,1000016,1000019,1000020,1000030,1000033,1000034,1000038,1000039,1000040,1000041,1000042,1000044,1000068,1000070,1000072,1000073] Tryz.func44 ?_
 repeat'((conv=>whnf);first|((with_reducible apply DrawI.at 87 idl44_16);exact rfl;kernel_rfl)|with_reducible apply ExE.go|((with_reducible apply EqF.mk);exact rfl)|with_reducible apply AndI.mk|with_reducible exact trivial|(try(first|apply eN|apply eI|apply eC);conv=>whnf);apply sD;(focus(try intro hc;have hc0:=hc;(try simp only[SPLT]at hc);try refine and0 ?_);first|exact sideG)|((with_reducible apply CallO.go);(conv=>whnf);apply sD;(focus first|(apply giveso_g (c1);all_goals exact preO)|(apply giveso_g (c2);all_goals exact preO)))|(first|apply dG|apply kB);kernel_rfl|apply rR|apply rE|apply rH| (apply cD<;>intro hb<;>(try simp only[SPLT]at hb)<;>try exact noB))
 all_goals try exact false
 repeat' ((conv=>whnf);first|exact endR|with_reducible first|apply And.intro|apply oR|apply oN|apply dC)
 all_goals (conv=>whnf)
 (first|refine rle_agg ?_|refine dle_agg ?_|skip)
 repeat' (first|exact endF|exact endF2|with_reducible apply dC|with_reducible apply dle_agg)
theorem test4_b (s:Str) (i:Nat) (p:Str) (q1:Pl) (j:Nat) (q3:Pl) (hp:pathS s (i,false)=(p,q1)) (h2:wantS s [32] q1=(j,false)) (hj:s[j]?=some 102) (h3:wantS s wFrom (j,false)=q3) (hi:i≤s.length) (hs:s.length≤100000000):
  SemO Tryz.prog 44 (.obj [.str s,.int .i64 i,.int .i64 (-1)]) [] (.agg (Cond.mk 9 [] p [] (endsS s q3).1.1 (endsS s q3).1.2).row) (some (.obj [.str s,.int .i64 (endsS s q3).2.1,.int .i64 (bI (endsS s q3).2)])):=by
 have hf:=path_fwd (s:=s) (q:=(i,false)) hi
 have c1:=path4_sem s i hi hs
 rw [hp] at c1 hf
 have c2:=needs_sem s [32] q1 hf.2 hs (by decide)
 have hf2:=want_fwd (s:=s) [32] (q:=q1) hf.2
 rw [h2] at c2 hf2
 have c3:=needs_sem s wFrom (j,false) hf2.2 hs (by decide)
 have hf3:=want_fwd (s:=s) wFrom (q:=(j,false)) hf2.2
 rw [h3] at c3 hf3
 have c4:=span_sem s q3 9 p 0 0 hf3.2 hs
 have hlt:=(gLt hj)
 have hjd:=getD_some hj
 unfold rD at c1 c2 c3
 dsimp only at c1
 simp only [bI_f,Cond.row_mk,List.map_nil] at c1 c2 c3 c4 ⊢
 refine sO [0,2,3,4000003,5000016,1000016,1000019,1000020,1000030,1000033,1000034,1000038,1000039,1000040,1000041,1000042,1000044,1000068,1000070,1000072,1000073] Tryz.func44 ?_
 repeat'((conv=>whnf);first|((with_reducible apply DrawI.at 87 idl44_16);exact rfl;kernel_rfl)|with_reducible apply ExE.go|((with_reducible apply EqF.mk);exact rfl)|with_reducible apply AndI.mk|with_reducible exact trivial|(try(first|apply eN|apply eI|apply eC);conv=>whnf);apply sD;(focus(try intro hc;have hc0:=hc;(try simp only[SPLT]at hc);try refine and0 ?_);first|exact sideG)|((with_reducible apply CallO.go);(conv=>whnf);apply sD;(focus first|(apply giveso_g (c1);all_goals exact preO)|(apply giveso_g (c2);all_goals exact preO)|(apply giveso_g (c3);all_goals exact preO)|(apply giveso_g (c4);all_goals exact preO)))|(first|apply dG|apply kB);kernel_rfl|apply rR|apply rE|apply rH| ((apply cD)<;>intro hb<;>(try simp only [SPLT] at hb)<;>(try first|exact noB|((exfalso;rw [hjd] at hb;simp at hb;omega);done))))
 all_goals try exact false
 repeat' ((conv=>whnf);first|exact endR|with_reducible first|apply And.intro|apply oR|apply oN|apply dC)
 all_goals (conv=>whnf)
 (first|refine rle_agg ?_|refine dle_agg ?_|skip)
 repeat' (first|exact endF|exact endF2|with_reducible apply dC|with_reducible apply dle_agg)
theorem test4_c (s:Str) (i:Nat) (p:Str) (q1:Pl) (j:Nat) (q3:Pl) (hp:pathS s (i,false)=(p,q1)) (h2:wantS s [32] q1=(j,false)) (hj:¬ s[j]?=some 102) (h3:wantS s wIn (j,false)=q3) (hb3:q3.2=true) (hi:i≤s.length) (hs:s.length≤100000000):
  SemO Tryz.prog 44 (.obj [.str s,.int .i64 i,.int .i64 (-1)]) [] (.agg (Cond.mk 5 [] p [] 0 0).row) (some (.obj [.str s,.int .i64 q3.1,.int .i64 (bI q3)])):=by
 have hf:=path_fwd (s:=s) (q:=(i,false)) hi
 have c1:=path4_sem s i hi hs
 rw [hp] at c1 hf
 have c2:=needs_sem s [32] q1 hf.2 hs (by decide)
 have hf2:=want_fwd (s:=s) [32] (q:=q1) hf.2
 rw [h2] at c2 hf2
 have c3:=needs_sem s wIn (j,false) hf2.2 hs (by decide)
 have hf3:=want_fwd (s:=s) wIn (q:=(j,false)) hf2.2
 rw [h3] at c3 hf3
 have hB:bI q3=q3.1:=by unfold bI;rw [if_pos hb3]
 unfold rD at c1 c2 c3
 dsimp only at c1
 simp only [bI_f,hB,Cond.row_mk,List.map_nil] at c1 c2 c3 ⊢
 cases hx:s[j]? with
 |none=>
  have hm:=List.getElem?_eq_none_iff.1 hx
  refine sO [0,2,3,4000003,5000016,1000016,1000019,1000020,1000030,1000033,1000034,1000038,1000039,1000040,1000041,1000042,1000044,1000068,1000070,1000072,1000073] Tryz.func44 ?_
  repeat'((conv=>whnf);first|((with_reducible apply DrawI.at 87 idl44_16);exact rfl;kernel_rfl)|with_reducible apply ExE.go|((with_reducible apply EqF.mk);exact rfl)|with_reducible apply AndI.mk|with_reducible exact trivial|(try(first|apply eN|apply eI|apply eC);conv=>whnf);apply sD;(focus(try intro hc;have hc0:=hc;(try simp only[SPLT]at hc);try refine and0 ?_);first|exact sideG)|((with_reducible apply CallO.go);(conv=>whnf);apply sD;(focus first|(apply giveso_g (c1);all_goals exact preO)|(apply giveso_g (c2);all_goals exact preO)|(apply giveso_g (c3);all_goals exact preO)))|(first|apply dG|apply kB);kernel_rfl|apply rR|apply rE|apply rH| (apply cD<;>intro hb<;>(try simp only[SPLT]at hb)<;>try exact noB))
  all_goals try exact false
  repeat' ((conv=>whnf);first|exact endR|with_reducible first|apply And.intro|apply oR|apply oN|apply dC)
  all_goals (conv=>whnf)
  (first|refine rle_agg ?_|refine dle_agg ?_|skip)
  repeat' (first|exact endF|exact endF2|with_reducible apply dC|with_reducible apply dle_agg)
 |some c=>
  have hlt:=(gLt hx)
  have hjd:=getD_some hx
  have n102:(c.toNat:Int) ≠ 102:=fun e=>hj (by rw [hx];congr 1;exact UInt8.toNat_inj.1 (by show c.toNat=102;omega))
  refine sO [0,2,3,4000003,5000016,1000016,1000019,1000020,1000030,1000033,1000034,1000038,1000039,1000040,1000041,1000042,1000044,1000068,1000070,1000072,1000073] Tryz.func44 ?_
  repeat'((conv=>whnf);first|((with_reducible apply DrawI.at 87 idl44_16);exact rfl;kernel_rfl)|with_reducible apply ExE.go|((with_reducible apply EqF.mk);exact rfl)|with_reducible apply AndI.mk|with_reducible exact trivial|(try(first|apply eN|apply eI|apply eC);conv=>whnf);apply sD;(focus(try intro hc;have hc0:=hc;(try simp only[SPLT]at hc);try refine and0 ?_);first|exact sideG)|((with_reducible apply CallO.go);(conv=>whnf);apply sD;(focus first|(apply giveso_g (c1);all_goals exact preO)|(apply giveso_g (c2);all_goals exact preO)|(apply giveso_g (c3);all_goals exact preO)))|(first|apply dG|apply kB);kernel_rfl|apply rR|apply rE|apply rH| ((apply cD)<;>intro hb<;>(try simp only [SPLT] at hb)<;>(try first|exact noB|((exfalso;rw [hjd] at hb;simp at hb;omega);done))))
  all_goals try exact false
  repeat' ((conv=>whnf);first|exact endR|with_reducible first|apply And.intro|apply oR|apply oN|apply dC)
  all_goals (conv=>whnf)
  (first|refine rle_agg ?_|refine dle_agg ?_|skip)
  repeat' (first|exact endF|exact endF2|with_reducible apply dC|with_reducible apply dle_agg)
end Go.Proofs.YtindehjiaknokaaGreatDoor
