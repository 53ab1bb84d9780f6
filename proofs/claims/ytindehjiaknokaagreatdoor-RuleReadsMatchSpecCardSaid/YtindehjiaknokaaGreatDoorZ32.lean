/- The reference reads rows of conditions (walks). -/
import Derived.Test.YtindehjiaknokaaGreatDoorZ26
import Derived.Test.YtindehjiaknokaaGreatDoorZ30
import Derived.Test.YtindehjiaknokaaGreatDoorZ31
namespace Go.Proofs.YtindehjiaknokaaGreatDoor
set_option linter.unusedSimpArgs false
set_option linter.unusedVariables false
open Go.RowKit
set_option maxRecDepth 100000
set_option maxHeartbeats 4000000
theorem conditions1_sem (n:Nat) (s:Str) (q:Pl) (H:Cond4 n s) (hn:s.length - q.1 < n) (hq:q.1≤s.length) (hs:s.length≤100000000):
  SemO Tryz.prog 39 (.obj [.str s,.int .i64 q.1,.int .i64 (bI q)]) [.bool true] (.sl 2 6 ((oneS (rcS n s) s q).1.map Cond.row)) (some (.obj [.str s,.int .i64 (oneS (rcS n s) s q).2.1,.int .i64 (bI (oneS (rcS n s) s q).2)])):=by
 have h1:=rc_fwd s n q hq
 have c1:=H q hq fun _=>hn
 have c2:=needs_sem s [41] (rcS n s q).2 h1.2 hs (by decide)
 unfold rD at c2
 unfold oneS
 dsimp only
 generalize wantS s [41] (rcS n s q).2=q2 at *
 generalize rcS n s q=r1 at *
 obtain ⟨⟨k0,ks0,p0,vs0,lo0,hi0⟩,q1⟩:=r1
 dsimp only at c1 c2
 simp only [List.map_cons,List.map_nil,Cond.row_mk] at c1 ⊢
 refine sO [0,1000016,1000019,1000020,1000030,1000033,1000034,1000038,1000039,1000040,1000041,1000068,1000070,1000072,1000073] Tryz.func39 ?_
 repeat'((conv=>whnf);first|(try(first|apply eN|apply eI|apply eC);conv=>whnf);apply sD;(focus(try intro hc;have hc0:=hc;(try simp only[SPLT]at hc);try refine and0 ?_);first|exact sideG)|((with_reducible apply CallO.go);(conv=>whnf);apply sD;(focus first|(apply giveso_g (c1);all_goals exact preO)))|(first|apply dG|apply kB);kernel_rfl|apply rR|apply rE|apply rH| (apply cD<;>intro hb<;>(try simp only[SPLT]at hb)<;>try exact noB))
 all_goals try exact false
 refine loop_go (M:=fun t=>mem t [0,1000016,1000019,1000020,1000030,1000033,1000034,1000038,1000039,1000040,1000041,1000068,1000070,1000072,1000073]) hT hM (fun k:Nat => [(0,.obj [.str s,.int .i64 q1.1,.int .i64 (bI q1)]),(5,.sl 2 6 [[.int .i64 k0,.sl 0 6 (ks0.map Cond.row),.str p0,.sl 0 1 (vs0.map fun s => [.str s]),.int .i64 lo0,.int .i64 hi0]])]) (fun k=>k=0) (fun k=>0) (0) ?_ ?_ ?_
 ·exact finF
 ·rfl
 ·rintro k rfl
  repeat'((conv=>whnf);first|(try(first|apply eN|apply eI|apply eC);conv=>whnf);apply sD;(focus(try intro hc;have hc0:=hc;(try simp only[SPLT]at hc);try refine and0 ?_);first|exact sideG)|((with_reducible apply CallO.go);(conv=>whnf);apply sD;(focus first|(apply giveso_g (c2);all_goals exact preO)))|(first|apply dG|apply kB);kernel_rfl|apply rR|apply rE|apply rH| (apply cD<;>intro hb<;>(try simp only[SPLT]at hb)<;>try exact noB))
  all_goals try exact false
  exact finR
theorem conditions_sem (n:Nat) (s:Str) (q:Pl) (H:Cond4 n s) (hn:s.length - q.1 < n) (hq:q.1≤s.length) (hs:s.length≤100000000):
  SemO Tryz.prog 39 (.obj [.str s,.int .i64 q.1,.int .i64 (bI q)]) [.bool false] (.sl 2 6 ((rsevS (rcS n s) s q).1.map Cond.row)) (some (.obj [.str s,.int .i64 (rsevS (rcS n s) s q).2.1,.int .i64 (bI (rsevS (rcS n s) s q).2)])):=by
 have ho:=rc_fwd s n
 have h1:=ho q hq
 have c1:=H q hq fun _=>hn
 unfold rsevS
 dsimp only
 generalize hr:rcS n s q=r1 at *
 obtain ⟨c,q1⟩:=r1
 have hq1:q1.1≤s.length:=h1.2
 have hL:(c.row::(contS (rcS n s) s (s.length+1) q1).1.map Cond.row)=([c]++(contS (rcS n s) s (s.length+1) q1).1).map Cond.row:=rfl
 dsimp only at c1 ⊢
 rw [List.map_cons,hL]
 generalize hF : [c]++(contS (rcS n s) s (s.length+1) q1).1=F
 generalize hE:(contS (rcS n s) s (s.length+1) q1).2=e
 have hrow : [c.row] = [c].map Cond.row:=rfl
 obtain ⟨k0,ks0,p0,vs0,lo0,hi0⟩:=c
 simp only [Cond.row_mk] at c1 hrow
 refine sO [0,1000016,1000019,1000020,1000030,1000033,1000034,1000038,1000039,1000040,1000041,1000068,1000070,1000072,1000073] Tryz.func39 ?_
 repeat'((conv=>whnf);first|(try(first|apply eN|apply eI|apply eC);conv=>whnf);apply sD;(focus(try intro hc;have hc0:=hc;(try simp only[SPLT]at hc);try refine and0 ?_);first|exact sideG)|((with_reducible apply CallO.go);(conv=>whnf);apply sD;(focus first|(apply giveso_g (c1);all_goals exact preO)))|(first|apply dG|apply kB);kernel_rfl|apply rR|apply rE|apply rH| (apply cD<;>intro hb<;>(try simp only[SPLT]at hb)<;>try exact noB))
 all_goals try exact false
 refine loop_go (M:=fun t=>mem t [0,1000016,1000019,1000020,1000030,1000033,1000034,1000038,1000039,1000040,1000041,1000068,1000070,1000072,1000073]) hT hM (fun x:Nat × Pl × List Cond => [(0,.obj [.str s,.int .i64 x.2.1.1,.int .i64 (bI x.2.1)]),(5,.sl 2 6 (x.2.2.map Cond.row))]) (fun x=>(x.2.1.1≤s.length∧q.1≤x.2.1.1∧x.2.2.length≤x.2.1.1+1∧(x.2.1.2=true→1≤x.1)∧(x.2.1.2=false→s.length - x.2.1.1+1≤x.1))∧x.2.2++(contS (rcS n s) s x.1 x.2.1).1=F∧(contS (rcS n s) s x.1 x.2.1).2=e) (fun x=>x.1) ((s.length+1,q1,[Cond.mk k0 ks0 p0 vs0 lo0 hi0])) ?_ ?_ ?_
 ·(conv=>whnf)
  refine ⟨?_,by rfl⟩
  repeat' ((conv=>whnf);first|exact endF|(exact DLe.of_eq (congrArg (D.sl 2 6) hrow))|exact endF2|with_reducible apply dC)
 ·exact ⟨⟨hq1,h1.1,by dsimp only [List.length_singleton];omega,fun _=>by dsimp only;omega,fun _=>by dsimp only;omega⟩,hF,hE⟩
 ·rintro ⟨m,q2,out⟩ ⟨⟨hb1,hb2,hb3,hb4,hb5⟩,he1,he2⟩
  dsimp only at hb1 hb2 hb3 hb4 hb5 he1 he2 ⊢
  have hol:(out.map Cond.row).length=out.length:=List.length_map _
  have cW:=needs_sem s [41] q2 hb1 hs (by decide)
  obtain ⟨i,b⟩:=q2
  dsimp only at *
  have hm:1≤m:=by cases b with
   |true=>exact hb4 rfl
   |false=>have:=hb5 rfl;omega
  obtain ⟨m,rfl⟩:∃ k,m=k+1:=⟨m - 1,by omega⟩
  unfold contS at he1 he2
  cases b with
  |true=>
   rw [if_neg (fun h=>by cases h.1),wantS_bad] at he1 he2
   dsimp only at he1 he2
   rw [List.append_nil] at he1
   subst he1
   subst he2
   simp only [bI_t]
   rw [wantS_bad] at cW
   unfold rD at cW
   simp only [bI_t] at cW
   repeat'((conv=>whnf);first|(try(first|apply eN|apply eI|apply eC);conv=>whnf);apply sD;(focus(try intro hc;have hc0:=hc;(try simp only[SPLT]at hc);try refine and0 ?_);first|exact sideG)|((with_reducible apply CallO.go);(conv=>whnf);apply sD;(focus first|(apply giveso_g (cW);all_goals exact preO)))|(first|apply dG|apply kB);kernel_rfl|apply rR|apply rE|apply rH| ((apply cD)<;>intro hb<;>(try simp only [SPLT] at hb)<;>(try first|exact noB|((exfalso;simp at hb;omega);done))))
   all_goals try exact false
   exact finR
  |false=>
   have hb5:=hb5 rfl
   unfold rD at cW
   simp only [bI_f] at cW ⊢
   cases hx:s[i]? with
   |none=>
    have hmm:=List.getElem?_eq_none_iff.1 hx
    rw [hx,if_neg (fun h=>by cases h.2)] at he1 he2
    dsimp only at he1 he2
    rw [List.append_nil] at he1
    subst he1
    rw [he2] at cW
    repeat'((conv=>whnf);first|(try(first|apply eN|apply eI|apply eC);conv=>whnf);apply sD;(focus(try intro hc;have hc0:=hc;(try simp only[SPLT]at hc);try refine and0 ?_);first|exact sideG)|((with_reducible apply CallO.go);(conv=>whnf);apply sD;(focus first|(apply giveso_g (cW);all_goals exact preO)))|(first|apply dG|apply kB);kernel_rfl|apply rR|apply rE|apply rH| ((apply cD)<;>intro hb<;>(try simp only [SPLT] at hb)<;>(try first|exact noB|((exfalso;simp at hb;omega);done))))
    all_goals try exact false
    exact finR
   |some x=>
    have hlt:=(gLt hx)
    have hxd:=getD_some hx
    by_cases h44:x=44
    ·subst h44
     rw [hx,if_pos ⟨rfl,rfl⟩] at he1 he2
     dsimp only at he1 he2
     have cN:=needs_sem s [44,32] (i,false) hb1 hs (by decide)
     have hw:=want_fwd [44,32] (q:=(i,false)) hb1
     have hwl:i+1≤(wantS s [44,32] (i,false)).1:=by
      have:wantS s [44,32] (i,false)=wantI s [32] (i+1):=by
       show (if s[i]?=some 44 then wantI s [32] (i+1) else (i,true))=_
       rw [if_pos hx]
      rw [this]
      exact (wantI_le [32] (i+1) hlt).1
     unfold rD at cN
     simp only [bI_f] at cN
     generalize wantS s [44,32] (i,false)=q3 at *
     have hw2:q3.1≤s.length:=hw.2
     have cC:=H q3 hw2 fun _=>by omega
     have hf:=ho q3 hw2
     have hf1:q3.1≤(rcS n s q3).2.1:=hf.1
     have hf2:(rcS n s q3).2.1≤s.length:=hf.2
     generalize rcS n s q3=r4 at *
     obtain ⟨⟨k4,ks4,p4,vs4,lo4,hi4⟩,q4⟩:=r4
     dsimp only at *
     simp only [Cond.row_mk] at cC
     repeat'((conv=>whnf);first|(try(first|apply eN|apply eI|apply eC);conv=>whnf);apply sD;(focus(try intro hc;have hc0:=hc;(try simp only[SPLT]at hc);try refine and0 ?_);first|exact sideG)|((with_reducible apply CallO.go);(conv=>whnf);apply sD;(focus first|(apply giveso_g (cN);all_goals exact preO)|(apply giveso_g (cC);all_goals exact preO)))|(first|apply dG|apply kB);kernel_rfl|apply rR|apply rE|apply rH| ((apply cD)<;>intro hb<;>(try simp only [SPLT] at hb)<;>(try first|exact noB|((exfalso;rw [hxd] at hb;simp at hb;omega);done)|((exfalso;simp at hb;omega);done))))
     all_goals try exact false
     refine ⟨(m,q4,out ++ [Cond.mk k4 ks4 p4 vs4 lo4 hi4]),⟨⟨hf2,by dsimp only;omega,by rw [List.length_append];dsimp only [List.length_singleton];omega,fun _=>by dsimp only;omega,fun _=>by dsimp only;omega⟩,by rw [List.append_assoc];exact he1,he2⟩,by dsimp only;omega,?_⟩
     (conv=>whnf)
     refine ⟨?_,by rfl⟩
     repeat' ((conv=>whnf);first|exact endF|(exact DLe.of_eq (congrArg (D.sl 2 6) (by rw [List.map_append,List.map_cons,List.map_nil,Cond.row_mk])))|exact endF2|with_reducible apply dC)
    ·rw [hx,if_neg (fun h=>h44 (Option.some.inj h.2))] at he1 he2
     dsimp only at he1 he2
     rw [List.append_nil] at he1
     subst he1
     rw [he2] at cW
     have n44:(x.toNat:Int) ≠ 44:=fun e=>h44 (UInt8.toNat_inj.1 (by show x.toNat=44;omega))
     repeat'((conv=>whnf);first|(try(first|apply eN|apply eI|apply eC);conv=>whnf);apply sD;(focus(try intro hc;have hc0:=hc;(try simp only[SPLT]at hc);try refine and0 ?_);first|exact sideG)|((with_reducible apply CallO.go);(conv=>whnf);apply sD;(focus first|(apply giveso_g (cW);all_goals exact preO)))|(first|apply dG|apply kB);kernel_rfl|apply rR|apply rE|apply rH| ((apply cD)<;>intro hb<;>(try simp only [SPLT] at hb)<;>(try first|exact noB|((exfalso;rw [hxd] at hb;simp at hb;omega);done)|((exfalso;simp at hb;omega);done))))
     all_goals try exact false
     exact finR
end Go.Proofs.YtindehjiaknokaaGreatDoor
