/- The reference reads a condition with values (walk). -/
import Derived.Test.YtindehjiaknokaaGreatDoorZ33
namespace Go.Proofs.YtindehjiaknokaaGreatDoor
set_option linter.unusedSimpArgs false
set_option linter.unusedVariables false
open Go.RowKit
set_option maxRecDepth 100000
set_option maxHeartbeats 4000000
def sR (v:Str):List D := [.str v]
theorem test4_d (s:Str) (i:Nat) (p:Str) (q1:Pl) (j:Nat) (k:Nat) (hp:pathS s (i,false)=(p,q1)) (h2:wantS s [32] q1=(j,false)) (hj:¬ s[j]?=some 102) (h3:wantS s wIn (j,false)=(k,false)) (hi:i≤s.length) (hs:s.length≤100000000):
  SemO Tryz.prog 44 (.obj [.str s,.int .i64 i,.int .i64 (-1)]) [] (.agg [.int .i64 5,.sl 0 6 [],.str p,.sl 0 1 ((rsevS (quoS s) s (k,false)).1.map sR),.int .i64 0,.int .i64 0]) (some (.obj [.str s,.int .i64 (rsevS (quoS s) s (k,false)).2.1,.int .i64 (bI (rsevS (quoS s) s (k,false)).2)])):=by
 have ho:FwdAll s (quoS s):=fun q hq=>quo_fwd hq
 have hf:=path_fwd (s:=s) (q:=(i,false)) hi
 have c1:=path4_sem s i hi hs
 rw [hp] at c1 hf
 have c2:=needs_sem s [32] q1 hf.2 hs (by decide)
 have hf2:=want_fwd (s:=s) [32] (q:=q1) hf.2
 rw [h2] at c2 hf2
 have c3:=needs_sem s wIn (j,false) hf2.2 hs (by decide)
 have hf3:=want_fwd (s:=s) wIn (q:=(j,false)) hf2.2
 rw [h3] at c3 hf3
 have c4:=value_sem s (k,false) hf3.2 hs
 have hf4:=ho (k,false) hf3.2
 unfold rsevS
 dsimp only
 generalize hr:quoS s (k,false)=r1 at *
 obtain ⟨v0,q0⟩:=r1
 have hq0:q0.1≤s.length:=hf4.2
 dsimp only at c4 ⊢
 rw [show (v0::(contS (quoS s) s (s.length+1) q0).1).map sR=([v0]++(contS (quoS s) s (s.length+1) q0).1).map sR from rfl]
 generalize hF : [v0]++(contS (quoS s) s (s.length+1) q0).1=F
 generalize hE:(contS (quoS s) s (s.length+1) q0).2=e
 unfold rD at c1 c2 c3 c4
 dsimp only at c1
 simp only [bI_f] at c1 c2 c3 c4 ⊢
 have hgo:∀ (c:UInt8),s[j]?=some c→(c.toNat:Int) ≠ 102:=fun c hc e=>hj (by rw [hc];congr 1;exact UInt8.toNat_inj.1 (by show c.toNat=102;omega))
 have hlj:(s.length:Int)≤j∨((s.getD ((j:Int).toNat) 0).toNat:Int) ≠ 102:=by
  cases hx:s[j]? with
  |none=>exact .inl (by have:=List.getElem?_eq_none_iff.1 hx;omega)
  |some c=>rw [getD_some hx];exact .inr (hgo c hx)
 clear hgo hj
 refine sO [0,2,3,4000003,5000016,1000016,1000019,1000020,1000030,1000033,1000034,1000038,1000039,1000040,1000041,1000042,1000044,1000068,1000070,1000072,1000073] Tryz.func44 ?_
 repeat'((conv=>whnf);first|((with_reducible apply DrawI.at 87 [[b0,b0,b0,b0,b0,b0,b0,b0],[b1,b0,b0,b0,b0,b0,b0,b0],[b0,b0,b1,b0,b0,b0,b0,b0],[b1,b1,b0,b0,b0,b0,b0,b0],[b1,b0,b1,b0,b0,b0,b0,b0],[b0,b0,b1,b1,b0,b0,b0,b0],[b1,b1,b1,b0,b0,b0,b0,b0],[b1,b0,b1,b1,b0,b0,b0,b0],[b0,b0,b1,b1,b1,b0,b0,b0],[b1,b1,b1,b1,b0,b0,b0,b0],[b1,b0,b1,b1,b1,b0,b0,b0],[b1,b1,b1,b1,b1,b0,b0,b0],[b1,b1,b1,b1,b1,b1,b0,b0],[b1,b1,b1,b1,b1,b1,b1,b0],[b1,b1,b1,b1,b1,b1,b1,b1]]);exact rfl;kernel_rfl)|with_reducible apply ExE.go|((with_reducible apply EqF.mk);exact rfl)|with_reducible apply AndI.mk|with_reducible exact trivial|(try(first|apply eN|apply eI|apply eC);conv=>whnf);apply sD;(focus(try intro hc;have hc0:=hc;(try simp only[SPLT]at hc);try refine and0 ?_);first|exact sideG)|((with_reducible apply CallO.go);(conv=>whnf);apply sD;(focus first|(apply giveso_g (c1);all_goals exact preO)|(apply giveso_g (c2);all_goals exact preO)|(apply giveso_g (c3);all_goals exact preO)|(apply giveso_g (c4);all_goals exact preO)))|(first|apply dG|apply kB);kernel_rfl|apply rR|apply rE|apply rH| ((apply cD)<;>intro hb<;>(try simp only [SPLT] at hb)<;>(try first|exact noB|((exfalso;simp at hb;omega);done))))
 all_goals try exact false
 refine loop_go (M:=fun t=>mem t [0,2,3,4000003,5000016,1000016,1000019,1000020,1000030,1000033,1000034,1000038,1000039,1000040,1000041,1000042,1000044,1000068,1000070,1000072,1000073]) hT hM (fun x:Nat × Pl × List Str => [(0,.obj [.str s,.int .i64 x.2.1.1,.int .i64 (bI x.2.1)]),(3,.obj [.int .i64 5,.nil,.str p,.sl 2 1 (x.2.2.map sR),.int .i64 0,.int .i64 0])]) (fun x=>(x.2.1.1≤s.length∧x.2.2.length≤x.2.1.1+1∧(x.2.1.2=true→1≤x.1)∧(x.2.1.2=false→s.length - x.2.1.1+1≤x.1))∧x.2.2++(contS (quoS s) s x.1 x.2.1).1=F∧(contS (quoS s) s x.1 x.2.1).2=e) (fun x=>x.1) ((s.length+1,q0,[v0])) ?_ ?_ ?_
 ·exact finF
 ·exact ⟨⟨hq0,by dsimp only [List.length_singleton];omega,fun _=>by dsimp only;omega,fun _=>by dsimp only;omega⟩,hF,hE⟩
 ·clear hF hE c1 c2 c3 c4 hr
  rintro ⟨m,q2,out⟩ ⟨⟨hb1,hb3,hb4,hb5⟩,he1,he2⟩
  dsimp only at hb1 hb3 hb4 hb5 he1 he2 ⊢
  have hol:(out.map sR).length=out.length:=List.length_map _
  have cW:=needs_sem s [41] q2 hb1 hs (by decide)
  obtain ⟨i2,b⟩:=q2
  dsimp only at hb1 hb3 hb4 hb5 he1 he2 cW ⊢
  have hm:1≤m:=by cases b with
   |true=>exact hb4 rfl
   |false=>have:=hb5 rfl;omega
  obtain ⟨m,rfl⟩:∃ k,m=k+1:=⟨m - 1,by omega⟩
  unfold contS at he1 he2
  cases b with
  |true=>
   rw [if_neg (fun h=>by cases h.1),wantS_bad] at he1 he2
   dsimp only at he1 he2
   rw [List.append_nil] at he1
   subst he1
   subst he2
   simp only [bI_t]
   rw [wantS_bad] at cW
   unfold rD at cW
   simp only [bI_t] at cW
   repeat'((conv=>whnf);first|((with_reducible apply DrawI.at 87 [[b0,b0,b0,b0,b0,b0,b0,b0],[b1,b0,b0,b0,b0,b0,b0,b0],[b0,b0,b1,b0,b0,b0,b0,b0],[b1,b1,b0,b0,b0,b0,b0,b0],[b1,b0,b1,b0,b0,b0,b0,b0],[b0,b0,b1,b1,b0,b0,b0,b0],[b1,b1,b1,b0,b0,b0,b0,b0],[b1,b0,b1,b1,b0,b0,b0,b0],[b0,b0,b1,b1,b1,b0,b0,b0],[b1,b1,b1,b1,b0,b0,b0,b0],[b1,b0,b1,b1,b1,b0,b0,b0],[b1,b1,b1,b1,b1,b0,b0,b0],[b1,b1,b1,b1,b1,b1,b0,b0],[b1,b1,b1,b1,b1,b1,b1,b0],[b1,b1,b1,b1,b1,b1,b1,b1]]);exact rfl;kernel_rfl)|with_reducible apply ExE.go|((with_reducible apply EqF.mk);exact rfl)|with_reducible apply AndI.mk|with_reducible exact trivial|(try(first|apply eN|apply eI|apply eC);conv=>whnf);apply sD;(focus(try intro hc;have hc0:=hc;(try simp only[SPLT]at hc);try refine and0 ?_);first|exact sideG)|((with_reducible apply CallO.go);(conv=>whnf);apply sD;(focus first|(apply giveso_g (cW);all_goals exact preO)))|(first|apply dG|apply kB);kernel_rfl|apply rR|apply rE|apply rH| ((apply cD)<;>intro hb<;>(try simp only [SPLT] at hb)<;>(try first|exact noB|((exfalso;simp at hb;omega);done))))
   all_goals try exact false
   repeat' ((conv=>whnf);first|exact endR|with_reducible first|apply And.intro|apply oR|apply oN|apply dC)
   all_goals (conv=>whnf)
   (first|refine rle_agg ?_|refine dle_agg ?_|skip)
   repeat' (first|exact endF|exact endF2|with_reducible apply dC|with_reducible apply dle_agg)
  |false=>
   have hb5:=hb5 rfl
   unfold rD at cW
   simp only [bI_f] at cW ⊢
   cases hx:s[i2]? with
   |none=>
    have hmm:=List.getElem?_eq_none_iff.1 hx
    rw [hx,if_neg (fun h=>by cases h.2)] at he1 he2
    dsimp only at he1 he2
    rw [List.append_nil] at he1
    subst he1
    rw [he2] at cW
    repeat'((conv=>whnf);first|((with_reducible apply DrawI.at 87 [[b0,b0,b0,b0,b0,b0,b0,b0],[b1,b0,b0,b0,b0,b0,b0,b0],[b0,b0,b1,b0,b0,b0,b0,b0],[b1,b1,b0,b0,b0,b0,b0,b0],[b1,b0,b1,b0,b0,b0,b0,b0],[b0,b0,b1,b1,b0,b0,b0,b0],[b1,b1,b1,b0,b0,b0,b0,b0],[b1,b0,b1,b1,b0,b0,b0,b0],[b0,b0,b1,b1,b1,b0,b0,b0],[b1,b1,b1,b1,b0,b0,b0,b0],[b1,b0,b1,b1,b1,b0,b0,b0],[b1,b1,b1,b1,b1,b0,b0,b0],[b1,b1,b1,b1,b1,b1,b0,b0],[b1,b1,b1,b1,b1,b1,b1,b0],[b1,b1,b1,b1,b1,b1,b1,b1]]);exact rfl;kernel_rfl)|with_reducible apply ExE.go|((with_reducible apply EqF.mk);exact rfl)|with_reducible apply AndI.mk|with_reducible exact trivial|(try(first|apply eN|apply eI|apply eC);conv=>whnf);apply sD;(focus(try intro hc;have hc0:=hc;(try simp only[SPLT]at hc);try refine and0 ?_);first|exact sideG)|((with_reducible apply CallO.go);(conv=>whnf);apply sD;(focus first|(apply giveso_g (cW);all_goals exact preO)))|(first|apply dG|apply kB);kernel_rfl|apply rR|apply rE|apply rH| ((apply cD)<;>intro hb<;>(try simp only [SPLT] at hb)<;>(try first|exact noB|((exfalso;simp at hb;omega);done))))
    all_goals try exact false
    repeat' ((conv=>whnf);first|exact endR|with_reducible first|apply And.intro|apply oR|apply oN|apply dC)
    all_goals (conv=>whnf)
    (first|refine rle_agg ?_|refine dle_agg ?_|skip)
    repeat' (first|exact endF|exact endF2|with_reducible apply dC|with_reducible apply dle_agg)
   |some x=>
    have hlt:=(gLt hx)
    have hxd:=getD_some hx
    by_cases h44:x=44
    ·subst h44
     rw [hx,if_pos ⟨rfl,rfl⟩] at he1 he2
     dsimp only at he1 he2
     have cN:=needs_sem s [44,32] (i2,false) hb1 hs (by decide)
     have hw:=want_fwd [44,32] (q:=(i2,false)) hb1
     have hwl:i2+1≤(wantS s [44,32] (i2,false)).1:=by
      have:wantS s [44,32] (i2,false)=wantI s [32] (i2+1):=by
       show (if s[i2]?=some 44 then wantI s [32] (i2+1) else (i2,true))=_
       rw [if_pos hx]
      rw [this]
      exact (wantI_le [32] (i2+1) hlt).1
     unfold rD at cN
     simp only [bI_f] at cN
     generalize wantS s [44,32] (i2,false)=q3 at *
     have hw2:q3.1≤s.length:=hw.2
     have cC:=value_sem s q3 hw2 hs
     have hf:=ho q3 hw2
     have hf1:q3.1≤(quoS s q3).2.1:=hf.1
     have hf2:(quoS s q3).2.1≤s.length:=hf.2
     unfold rD at cC
     generalize quoS s q3=r4 at *
     obtain ⟨v4,q4⟩:=r4
     dsimp only at *
     repeat'((conv=>whnf);first|((with_reducible apply DrawI.at 87 [[b0,b0,b0,b0,b0,b0,b0,b0],[b1,b0,b0,b0,b0,b0,b0,b0],[b0,b0,b1,b0,b0,b0,b0,b0],[b1,b1,b0,b0,b0,b0,b0,b0],[b1,b0,b1,b0,b0,b0,b0,b0],[b0,b0,b1,b1,b0,b0,b0,b0],[b1,b1,b1,b0,b0,b0,b0,b0],[b1,b0,b1,b1,b0,b0,b0,b0],[b0,b0,b1,b1,b1,b0,b0,b0],[b1,b1,b1,b1,b0,b0,b0,b0],[b1,b0,b1,b1,b1,b0,b0,b0],[b1,b1,b1,b1,b1,b0,b0,b0],[b1,b1,b1,b1,b1,b1,b0,b0],[b1,b1,b1,b1,b1,b1,b1,b0],[b1,b1,b1,b1,b1,b1,b1,b1]]);exact rfl;kernel_rfl)|with_reducible apply ExE.go|((with_reducible apply EqF.mk);exact rfl)|with_reducible apply AndI.mk|with_reducible exact trivial|(try(first|apply eN|apply eI|apply eC);conv=>whnf);apply sD;(focus(try intro hc;have hc0:=hc;(try simp only[SPLT]at hc);try refine and0 ?_);first|exact sideG)|((with_reducible apply CallO.go);(conv=>whnf);apply sD;(focus first|(apply giveso_g (cN);all_goals exact preO)|(apply giveso_g (cC);all_goals exact preO)))|(first|apply dG|apply kB);kernel_rfl|apply rR|apply rE|apply rH| ((apply cD)<;>intro hb<;>(try simp only [SPLT] at hb)<;>(try first|exact noB|((exfalso;rw [hxd] at hb;simp at hb;omega);done)|((exfalso;simp at hb;omega);done))))
     all_goals try exact false
     refine ⟨(m,q4,out ++ [v4]),⟨⟨hf2,by rw [List.length_append];dsimp only [List.length_singleton];omega,fun _=>by dsimp only;omega,fun _=>by dsimp only;omega⟩,by rw [List.append_assoc];exact he1,he2⟩,by dsimp only;omega,?_⟩
     (conv=>whnf)
     refine ⟨?_,by rfl⟩
     repeat' ((conv=>whnf);first|exact endF|exact endF2|with_reducible apply dC)
     all_goals simp only [List.getLastD_cons,List.getLastD_nil]
     repeat' ((conv=>whnf);first|exact endF|exact endF2|with_reducible apply dC)
     exact DLe.of_eq (by show D.obj [.int .i64 5,.nil,.str p,.sl 2 1 (out.map sR ++ [[.str v4]]),.int .i64 0,.int .i64 0]=_;rw [show (out ++ [v4]).map sR=out.map sR ++ [[.str v4]] by rw [List.map_append];rfl])
    ·rw [hx,if_neg (fun h=>h44 (Option.some.inj h.2))] at he1 he2
     dsimp only at he1 he2
     rw [List.append_nil] at he1
     subst he1
     rw [he2] at cW
     have n44:(x.toNat:Int) ≠ 44:=fun e=>h44 (UInt8.toNat_inj.1 (by show x.toNat=44;omega))
     repeat'((conv=>whnf);first|((with_reducible apply DrawI.at 87 [[b0,b0,b0,b0,b0,b0,b0,b0],[b1,b0,b0,b0,b0,b0,b0,b0],[b0,b0,b1,b0,b0,b0,b0,b0],[b1,b1,b0,b0,b0,b0,b0,b0],[b1,b0,b1,b0,b0,b0,b0,b0],[b0,b0,b1,b1,b0,b0,b0,b0],[b1,b1,b1,b0,b0,b0,b0,b0],[b1,b0,b1,b1,b0,b0,b0,b0],[b0,b0,b1,b1,b1,b0,b0,b0],[b1,b1,b1,b1,b0,b0,b0,b0],[b1,b0,b1,b1,b1,b0,b0,b0],[b1,b1,b1,b1,b1,b0,b0,b0],[b1,b1,b1,b1,b1,b1,b0,b0],[b1,b1,b1,b1,b1,b1,b1,b0],[b1,b1,b1,b1,b1,b1,b1,b1]]);exact rfl;kernel_rfl)|with_reducible apply ExE.go|((with_reducible apply EqF.mk);exact rfl)|with_reducible apply AndI.mk|with_reducible exact trivial|(try(first|apply eN|apply eI|apply eC);conv=>whnf);apply sD;(focus(try intro hc;have hc0:=hc;(try simp only[SPLT]at hc);try refine and0 ?_);first|exact sideG)|((with_reducible apply CallO.go);(conv=>whnf);apply sD;(focus first|(apply giveso_g (cW);all_goals exact preO)))|(first|apply dG|apply kB);kernel_rfl|apply rR|apply rE|apply rH| ((apply cD)<;>intro hb<;>(try simp only [SPLT] at hb)<;>(try first|exact noB|((exfalso;rw [hxd] at hb;simp at hb;omega);done)|((exfalso;simp at hb;omega);done))))
     all_goals try exact false
     repeat' ((conv=>whnf);first|exact endR|with_reducible first|apply And.intro|apply oR|apply oN|apply dC)
     all_goals (conv=>whnf)
     (first|refine rle_agg ?_|refine dle_agg ?_|skip)
     repeat' (first|exact endF|exact endF2|with_reducible apply dC|with_reducible apply dle_agg)
theorem rtest_sem (s:Str) (i:Nat) (hi:i≤s.length) (hs:s.length≤100000000):
  SemO Tryz.prog 44 (.obj [.str s,.int .i64 i,.int .i64 (-1)]) [] (.agg (rtestS s (i,false)).1.row) (some (.obj [.str s,.int .i64 (rtestS s (i,false)).2.1,.int .i64 (bI (rtestS s (i,false)).2)])):=by
 unfold rtestS
 cases hp:pathS s (i,false) with
 |mk p q1=>
  dsimp only
  cases h2:wantS s [32] q1 with
  |mk j b=>
   cases b with
   |true=>
    rw [if_pos rfl]
    exact test4_a s i p q1 _ hp h2 rfl hi hs
   |false=>
    rw [if_neg (fun h=>by cases h)]
    by_cases hj:s[j]?=some 102
    ·rw [if_pos hj]
     exact test4_b s i p q1 j _ hp h2 hj rfl hi hs
    ·rw [if_neg hj]
     cases h3:wantS s wIn (j,false) with
     |mk k b3=>
      cases b3 with
      |true=>
       rw [if_pos rfl]
       exact test4_c s i p q1 j _ hp h2 hj h3 rfl hi hs
      |false=>
       rw [if_neg (fun h=>by cases h),Cond.row_mk]
       exact test4_d s i p q1 j k hp h2 hj h3 hi hs
end Go.Proofs.YtindehjiaknokaaGreatDoor
