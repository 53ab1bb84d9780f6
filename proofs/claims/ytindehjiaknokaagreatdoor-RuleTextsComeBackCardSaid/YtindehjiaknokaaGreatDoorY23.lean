/- The reference's reader: numbers (walk). The program reads a condition: its kinds (walks, given what is read in brackets, a test and a count). -/
import Derived.Test.YtindehjiaknokaaGreatDoorY22
import Derived.Test.YtindehjiaknokaaGreatDoorY21
namespace Go.Proofs.YtindehjiaknokaaGreatDoor
set_option linter.unusedSimpArgs false
set_option linter.unusedVariables false
open Go.RowKit
set_option maxRecDepth 100000
set_option maxHeartbeats 4000000
set_option maxHeartbeats 8000000
section
variable {P:Program} {Q:Exit→Act→World→Prop} {a:Act} {w:World} {ops:Array Oper} {rest:List Oper} {o:Oper}
theorem l_on (hw:Region.wanted o (yielded ops a.tmps)=true) (h:o.wp P a w (fun a' w'=>wpList P ops Q rest a' w') Q):wpList P ops Q (o::rest) a w:=by
 unfold wpList
 rw [hw,if_pos rfl]
 exact .inl h
theorem l_off (hw:Region.wanted o (yielded ops a.tmps)=false) (h:wpList P ops Q rest (a.put o.dst undef) w):wpList P ops Q (o::rest) a w:=by
 unfold wpList
 rw [hw,if_neg (by simp)]
 exact h
end
structure Sev {α:Type} (b:Nat) (s:Str) (one:Pl→α × Pl) (fn:Value) (J:List α→Pl→World→Prop) (lo:Nat):Prop where
 cell:∀ acc q w,J acc q w→w.cell? ⟨b,2,none⟩=some (.bool q.2)∧w.cell? ⟨b,1,none⟩=some (.int .i64 q.1)
 fwd:FwdAll s one
 bad:∀ q:Pl,q.2=true→(one q).2.2=true
 is:∀ acc q w,J acc q w→q.1≤s.length→Calls Tryz.prog 30 #[.pointer (some ⟨b,0,none⟩),.string ⟨#[41]⟩] w fun e w'=>e=.returned (.bool (isS s [41] q))∧J acc (if isS s [41] q=true then (q.1+1,false) else q) w'
 want:∀ acc q w,J acc q w→q.1≤s.length→Calls Tryz.prog 34 #[.pointer (some ⟨b,0,none⟩),.string ⟨#[44,32]⟩] w fun e w'=>e=.returned (.tuple #[])∧J acc (wantS s [44,32] q) w'
 one:∀ acc q w,J acc q w→q.1≤s.length→lo≤q.1→acc.length≤s.length+1→∃ (f:Nat) (vs:Array Value),fn=.func (.func f) #[] vs∧Enters Tryz.prog f∧Calls Tryz.prog f vs w fun e w'=>e=.returned (.tuple #[])∧J (acc ++ [(one q).1]) (one q).2 w'
theorem sev_len {α:Type} (one:Pl→α × Pl) (s:Str):∀ (m:Nat) (q:Pl),(sevS one s m q).1.length≤m
 |0,_=>Nat.le_refl _
 |m+1,q=>by
  unfold sevS
  split
  ·simp
  ·split
   ·simp
   ·have:=sev_len one s m (wantS s [44,32] (one q).2)
    simp
    omega
theorem several_at {α:Type} {b:Nat} {s:Str} {one:Pl→α × Pl} {fn:Value} {J:List α→Pl→World→Prop} {lo:Nat} (H:Sev b s one fn J lo) (w:World) (q:Pl) (h:J [] q w) (hq:q.1≤s.length) (hb:q.2=false) (h1:1≤q.1) (hlo:lo≤q.1):
  Calls Tryz.prog 65 #[.pointer (some ⟨b,0,none⟩),fn] w fun e w'=>e=.returned (.tuple #[])∧J (sevS one s (s.length+1) q).1 (sevS one s (s.length+1) q).2 w':=by
 have hGl:=sev_len one s (s.length+1) q
 generalize hG:sevS one s (s.length+1) q=G at hGl ⊢
 go_enter Tryz.func65,Tryz.ntmps65
 repeat' (first|(with_reducible first|apply wp_block|apply wp_skip|apply wp_exit)|((with_reducible apply wp_seq_k);intro K hK)|simp only [Exit.then,Exit.inBlock,↓reduceIte,Nat.reduceEqDiff]|((with_reducible apply wp_cond_true);exact rfl)|((with_reducible apply wp_cond_false);exact rfl)|((fail_if_success with_reducible apply no_region);go_step))
 go_loopw [] (fun wr=>∃ (acc:List α) (q':Pl) (m:Nat),J acc q' wr∧q'.1≤s.length∧lo≤q'.1∧acc++(sevS one s m q').1=G.1∧(sevS one s m q').2=G.2∧(q'.2=true→1≤m)∧(q'.2=false→s.length - q'.1+2≤m)) (fun wr=>match wr.cell? ⟨b,1,none⟩,wr.cell? ⟨b,2,none⟩ with|some (.int _ i),some (.bool t)=>2 * (s.length - i.toNat)+(if t then 0 else 1)|_,_=>0)
 case atStart=>exact ⟨[],q,s.length+1,h,hq,hlo,by rw [hG];rfl,by rw [hG],fun _=>by omega,fun _=>by omega⟩
 case round=>
  obtain ⟨acc,q',m,hJ,hq',hlo',hA,hB,hm1,hm2⟩:=hrel
  repeat' (first|(with_reducible first|apply wp_block|apply wp_skip|apply wp_exit)|((with_reducible apply wp_seq_k);intro K hK)|simp only [Exit.then,Exit.inBlock,↓reduceIte,Nat.reduceEqDiff]|((with_reducible apply wp_cond_true);exact rfl)|((with_reducible apply wp_cond_false);exact rfl)|((fail_if_success with_reducible apply no_region);go_step))
  obtain ⟨f,vs,rfl,hen,hone⟩:=H.one acc q' wr hJ hq' hlo' (by
   have:=congrArg List.length hA
   rw [List.length_append] at this
   omega)
  haveI:=hen
  with_reducible apply (wp_region_lit (id:=0))
  refine l_move rfl ?_;(try simp only [SS,Nat.reduceAdd])
  refine wpList_plain rfl fun K1 hK1=>r_callF (args:=vs) (vs:=vs) (f:=f) rfl (fun g h=>by cases h) hone (by simp) fun e w1 he => ?_
  obtain ⟨rfl,hJ1⟩:=he
  refine hK1 _ _ ?_
  (try simp only [SS,Nat.reduceAdd])
  apply wpList_nil
  repeat' (first|(with_reducible first|apply wp_block|apply wp_skip|apply wp_exit)|((with_reducible apply wp_seq_k);intro K hK)|simp only [Exit.then,Exit.inBlock,↓reduceIte,Nat.reduceEqDiff]|((with_reducible apply wp_cond_true);exact rfl)|((with_reducible apply wp_cond_false);exact rfl)|((fail_if_success with_reducible apply no_region);go_step))
  have hfw:=H.fwd q' hq'
  generalize hr:one q'=r at *
  obtain ⟨v1,i1,b1⟩:=r
  dsimp only at hJ1
  have hi1:i1≤s.length:=hfw.2
  have hi2:q'.1≤i1:=hfw.1
  obtain ⟨k2,k1⟩:=H.cell _ _ _ hJ1
  dsimp only at k1 k2
  obtain ⟨m,rfl⟩:∃ k,m=k+1:=⟨m - 1,by cases hqb:q'.2 with
   |true=>have:=hm1 hqb;omega
   | false=>have:=hm2 hqb;omega⟩
  unfold sevS at hA hB
  rw [hr] at hA hB
  dsimp only at hA hB
  with_reducible apply (wp_region_lit (id:=1))
  refine l_move rfl ?_;(try simp only [SS,Nat.reduceAdd])
  (apply l_nilCheck);exact rfl;(try simp only [SS,Nat.reduceAdd])
  (apply l_fieldAddr);exact rfl;(try simp only [SS,Nat.reduceAdd])
  (apply l_load1);exact rfl;exact k2;(try simp only [SS,Nat.reduceAdd])
  refine l_move rfl ?_;(try simp only [SS,Nat.reduceAdd])
  cases b1 with
  |true=>
   rw [if_pos rfl] at hA hB
   refine l_off rfl ?_
   (try simp only [SS,Nat.reduceAdd])
   refine l_off rfl ?_
   (try simp only [SS,Nat.reduceAdd])
   refine wpList_plain rfl fun K2 hK2 => ?_
   refine wp_or (p:=true) rfl rfl rfl ?_
   refine hK2 _ _ ?_
   (try simp only [SS,Nat.reduceAdd])
   apply wpList_nil
   repeat' (first|(with_reducible first|apply wp_block|apply wp_skip|apply wp_exit)|((with_reducible apply wp_seq_k);intro K hK)|simp only [Exit.then,Exit.inBlock,↓reduceIte,Nat.reduceEqDiff]|((with_reducible apply wp_cond_true);exact rfl)|((with_reducible apply wp_cond_false);exact rfl)|((fail_if_success with_reducible apply no_region);go_step))
   refine bodyPost_ret (results_none rfl _ _ _) rfl ?_
   refine ⟨rfl,?_⟩
   rw [← hA,← hB]
   exact hJ1
  |false=>
   rw [if_neg (fun h=>by cases h)] at hA hB
   refine l_on rfl ?_
   refine r_move rfl ?_
   (try simp only [SS,Nat.reduceAdd])
   refine l_on rfl ?_
   refine r_enter (al := [.pointer (some ⟨b,0,none⟩),.string ⟨#[41]⟩]) rfl ((H.is _ _ _ hJ1 hi1).mono fun e w2 he => ?_)
   obtain ⟨rfl,hJ2⟩:=he
   dsimp only at hJ2 ⊢
   (try simp only [SS,Nat.reduceAdd])
   generalize hy:isS s [41] (i1,false)=y at *
   refine wpList_plain rfl fun K2 hK2 => ?_
   refine wp_or (p:=y) rfl rfl rfl ?_
   refine hK2 _ _ ?_
   (try simp only [SS,Nat.reduceAdd])
   apply wpList_nil
   cases y with
   |true=>
    rw [if_pos rfl] at hA hB hJ2
    repeat' (first|(with_reducible first|apply wp_block|apply wp_skip|apply wp_exit)|((with_reducible apply wp_seq_k);intro K hK)|simp only [Exit.then,Exit.inBlock,↓reduceIte,Nat.reduceEqDiff]|((with_reducible apply wp_cond_true);exact rfl)|((with_reducible apply wp_cond_false);exact rfl)|((fail_if_success with_reducible apply no_region);go_step))
    refine bodyPost_ret (results_none rfl _ _ _) rfl ?_
    refine ⟨rfl,?_⟩
    rw [← hA,← hB]
    exact hJ2
   |false=>
    rw [if_neg (fun h=>by cases h)] at hA hB hJ2
    repeat' (first|(with_reducible first|apply wp_block|apply wp_skip|apply wp_exit)|((with_reducible apply wp_seq_k);intro K hK)|simp only [Exit.then,Exit.inBlock,↓reduceIte,Nat.reduceEqDiff]|((with_reducible apply wp_cond_true);exact rfl)|((with_reducible apply wp_cond_false);exact rfl)|((fail_if_success with_reducible apply no_region);go_step))
    have hw:=want_fwd (s:=s) [44,32] (q:=(i1,false)) hi1
    have hcomma:(wantS s [44,32] (i1,false)).2=false→i1+2≤(wantS s [44,32] (i1,false)).1:=fun h=>by
     have:=(wantS_ate h).2.at_
     simp at this
     omega
    with_reducible apply (wp_region_lit (id:=2))
    refine l_move rfl ?_;(try simp only [SS,Nat.reduceAdd])
    refine l_enter (al := [.pointer (some ⟨b,0,none⟩),.string ⟨#[44,32]⟩]) rfl ((H.want _ _ _ hJ2 hi1).mono fun e w3 he => ?_)
    obtain ⟨rfl,hJ3⟩:=he
    (try simp only [SS,Nat.reduceAdd])
    apply wpList_nil
    obtain ⟨k3,k4⟩:=H.cell _ _ _ hJ
    obtain ⟨k5,k6⟩:=H.cell _ _ _ hJ3
    have hqb:q'.2=false:=by
     cases hqb:q'.2 with
     |false=>rfl
     |true=>
      have:=H.bad q' hqb
      rw [hr] at this
      cases this
    have hm2:=hm2 hqb
    repeat' (first|(with_reducible first|apply wp_block|apply wp_skip|apply wp_exit)|((with_reducible apply wp_seq_k);intro K hK)|simp only [Exit.then,Exit.inBlock,↓reduceIte,Nat.reduceEqDiff]|((with_reducible apply wp_cond_true);exact rfl)|((with_reducible apply wp_cond_false);exact rfl)|((fail_if_success with_reducible apply no_region);go_step))
    have hw1:=hw.1
    have hw2:=hw.2
    refine ⟨⟨acc ++ [v1],_,m,hJ3,hw.2,Nat.le_trans hlo' (Nat.le_trans hi2 hw.1),by rw [List.append_assoc];exact hA,hB,fun _=>by omega,fun h=>by have:=hcomma h;omega⟩,?_⟩
    rw [k3,k4,k5,k6]
    generalize wantS s [44,32] (i1,false)=r3 at *
    obtain ⟨i3,b3⟩:=r3
    obtain ⟨i0,b0⟩:=q'
    dsimp only at *
    subst hqb
    have hi3:i1≤i3:=hw.1
    have hi4:i3≤s.length:=hw.2
    cases b3 with
    |true=>simp;omega
    |false=>have:=hcomma rfl;simp;omega
set_option maxHeartbeats 4000000
theorem isF {s t:Str} {i:Nat} (h:startsAt s t i=false) (hi:i≤s.length) (hs:s.length≤100000000) (ht:t.length≤100):
  SemO Tryz.prog 30 (.obj [.str s,.int .i64 i,.bool false]) [.str t] (.bool false) (some (.obj [.str s,.int .i64 i,.bool false])):=
 is_gen s t i i false h (by rw [h];rfl) hi hs ht
theorem isT {s t:Str} {i:Nat} (h:startsAt s t i=true) (hi:i≤s.length) (hs:s.length≤100000000) (ht:t.length≤100):
  SemO Tryz.prog 30 (.obj [.str s,.int .i64 i,.bool false]) [.str t] (.bool true) (some (.obj [.str s,.int .i64 (i+t.length:Nat),.bool false])):=
 is_gen s t i (i+t.length) true h (by rw [h];rfl) hi hs ht
theorem condP_t (s:Str) (i:Nat):SemO Tryz.prog 18 (.obj (pC s (i,true))) [] (.agg zeroC.row) (some (.obj (pC s (i,true)))):=by
 unfold zeroC pC
 rw [Cond.row_mk]
 refine sO [0,2,1000016,1000018,1000020,1000030,1000031,1000032,1000033,1000034,1000036,1000037,1000038,1000040,1000041,1000068,1000070] Tryz.func18 ?_
 repeat'((conv=>whnf);first|(try(first|apply eN|apply eI|apply eC);conv=>whnf);apply sD;(focus first|exact side)|((with_reducible apply CallO.go);(conv=>whnf);apply sD;(focus first|(apply giveso_g (isF _ _ _ _);all_goals exact preO)|(apply giveso_g (isT _ _ _ _);all_goals exact preO)|(apply giveso_g (is_gen _ _ _ _ _ _ _ _ _ _);all_goals exact preO)|(apply giveso_g (is_sem _ _ _ _ _ _);all_goals exact preO)|(apply giveso_g (condsP_of _ _ _ _ _);all_goals exact preO)|(apply giveso_g (oneP_sem _ _ _ _ _ _ _ _);all_goals exact preO)|(apply giveso_g (path_t _ _ _ _ _ _);all_goals exact preO)|(apply giveso_g (path_f _ _ _ _);all_goals exact preO)|(apply giveso_g (path_sem _ _ _ _);all_goals exact preO)|(apply giveso_g (want_sem _ _ _ _ _ _);all_goals exact preO)|(apply giveso_g (overP_sem _ _ _ _ _ _ _ _ _);all_goals exact preO)|(apply giveso_g (testP_of _ _ _);all_goals exact preO)))|apply rR|apply rE|apply rH| (apply cD<;>intro hb<;>(try simp only[SPLT]at hb)<;>try exact noB))
 all_goals try exact false
 repeat' ((conv=>whnf);first|exact endR|with_reducible first|apply And.intro|apply oR|apply oN|apply dC)
 all_goals (conv=>whnf)
 (first|refine rle_agg ?_|refine dle_agg ?_|skip)
 repeat' (first|exact endF|exact endF2|with_reducible apply dC|with_reducible apply dle_agg)
theorem condP_0 (n:Nat) (s:Str) (i:Nat) (H:CondP n s) (HC:CondsP n s) (hF:FwdAll s (pcS n s)) (hn:s.length - i < n+1)  (e0:startsAt s wAll i=true) (hi:i≤s.length) (hs:s.length≤100000000):
  SemO Tryz.prog 18 (.obj (pC s (i,false))) [] (.agg (Cond.mk 1 (sevS (pcS n s) s (s.length+1) (i+4,false)).1 [] [] 0 0).row) (some (.obj (pC s (sevS (pcS n s) s (s.length+1) (i+4,false)).2))):=by
 have u0:SemO Tryz.prog 30 (.obj [.str s,.int .i64 i,.bool false]) [.str wAll] (.bool true) (some (.obj [.str s,.int .i64 (i+4:Nat),.bool false])):=isT e0 hi hs (by decide)
 have hle:i+4≤s.length:=starts_le e0 hi
 have c1:=HC (i+4) (by omega) hle (by omega)
 generalize sevS (pcS n s) s (s.length+1) (i+4,false)=r at *
 obtain ⟨l,q1⟩:=r
 unfold pC at *
 dsimp only at c1 ⊢
 rw [Cond.row_mk]
 refine sO [0,2,1000016,1000018,1000020,1000030,1000031,1000032,1000033,1000034,1000036,1000037,1000038,1000040,1000041,1000068,1000070] Tryz.func18 ?_
 repeat'((conv=>whnf);first|(try(first|apply eN|apply eI|apply eC);conv=>whnf);apply sD;(focus first|exact side)|((with_reducible apply CallO.go);(conv=>whnf);apply sD;(focus first|(apply giveso_g (u0);all_goals exact preO)|(apply giveso_g (c1);all_goals exact preO)))|apply rR|apply rE|apply rH| (apply cD<;>intro hb<;>(try simp only[SPLT]at hb)<;>try exact noB))
 all_goals try exact false
 repeat' ((conv=>whnf);first|exact endR|with_reducible first|apply And.intro|apply oR|apply oN|apply dC)
 all_goals (conv=>whnf)
 (first|refine rle_agg ?_|refine dle_agg ?_|skip)
 repeat' (first|exact endF|exact endF2|with_reducible apply dC|with_reducible apply dle_agg)
theorem condP_1 (n:Nat) (s:Str) (i:Nat) (H:CondP n s) (HC:CondsP n s) (hF:FwdAll s (pcS n s)) (hn:s.length - i < n+1) (e0:startsAt s wAll i=false) (e1:startsAt s wAny i=true) (hi:i≤s.length) (hs:s.length≤100000000):
  SemO Tryz.prog 18 (.obj (pC s (i,false))) [] (.agg (Cond.mk 2 (sevS (pcS n s) s (s.length+1) (i+4,false)).1 [] [] 0 0).row) (some (.obj (pC s (sevS (pcS n s) s (s.length+1) (i+4,false)).2))):=by
 have u0:=isF e0 hi hs (by decide)
 have u1:SemO Tryz.prog 30 (.obj [.str s,.int .i64 i,.bool false]) [.str wAny] (.bool true) (some (.obj [.str s,.int .i64 (i+4:Nat),.bool false])):=isT e1 hi hs (by decide)
 have hle:i+4≤s.length:=starts_le e1 hi
 have c1:=HC (i+4) (by omega) hle (by omega)
 generalize sevS (pcS n s) s (s.length+1) (i+4,false)=r at *
 obtain ⟨l,q1⟩:=r
 unfold pC at *
 dsimp only at c1 ⊢
 rw [Cond.row_mk]
 refine sO [0,2,1000016,1000018,1000020,1000030,1000031,1000032,1000033,1000034,1000036,1000037,1000038,1000040,1000041,1000068,1000070] Tryz.func18 ?_
 repeat'((conv=>whnf);first|(try(first|apply eN|apply eI|apply eC);conv=>whnf);apply sD;(focus first|exact side)|((with_reducible apply CallO.go);(conv=>whnf);apply sD;(focus first|(apply giveso_g (u0);all_goals exact preO)|(apply giveso_g (u1);all_goals exact preO)|(apply giveso_g (c1);all_goals exact preO)))|apply rR|apply rE|apply rH| (apply cD<;>intro hb<;>(try simp only[SPLT]at hb)<;>try exact noB))
 all_goals try exact false
 repeat' ((conv=>whnf);first|exact endR|with_reducible first|apply And.intro|apply oR|apply oN|apply dC)
 all_goals (conv=>whnf)
 (first|refine rle_agg ?_|refine dle_agg ?_|skip)
 repeat' (first|exact endF|exact endF2|with_reducible apply dC|with_reducible apply dle_agg)
theorem condP_2 (n:Nat) (s:Str) (i:Nat) (H:CondP n s) (HC:CondsP n s) (hF:FwdAll s (pcS n s)) (hn:s.length - i < n+1) (e0:startsAt s wAll i=false) (e1:startsAt s wAny i=false) (e2:startsAt s wNot i=true) (hi:i≤s.length) (hs:s.length≤100000000):
  SemO Tryz.prog 18 (.obj (pC s (i,false))) [] (.agg (Cond.mk 3 (oneS (pcS n s) s (i+4,false)).1 [] [] 0 0).row) (some (.obj (pC s (oneS (pcS n s) s (i+4,false)).2))):=by
 have u0:=isF e0 hi hs (by decide)
 have u1:=isF e1 hi hs (by decide)
 have u2:SemO Tryz.prog 30 (.obj [.str s,.int .i64 i,.bool false]) [.str wNot] (.bool true) (some (.obj [.str s,.int .i64 (i+4:Nat),.bool false])):=isT e2 hi hs (by decide)
 have hle:i+4≤s.length:=starts_le e2 hi
 have c1:=oneP_sem n s (i+4,false) H hF (fun _=>by dsimp only;omega) hle hs
 generalize oneS (pcS n s) s (i+4,false)=r at *
 obtain ⟨l,q1⟩:=r
 unfold pC at *
 dsimp only at c1 ⊢
 rw [Cond.row_mk]
 refine sO [0,2,1000016,1000018,1000020,1000030,1000031,1000032,1000033,1000034,1000036,1000037,1000038,1000040,1000041,1000068,1000070] Tryz.func18 ?_
 repeat'((conv=>whnf);first|(try(first|apply eN|apply eI|apply eC);conv=>whnf);apply sD;(focus first|exact side)|((with_reducible apply CallO.go);(conv=>whnf);apply sD;(focus first|(apply giveso_g (u0);all_goals exact preO)|(apply giveso_g (u1);all_goals exact preO)|(apply giveso_g (u2);all_goals exact preO)|(apply giveso_g (c1);all_goals exact preO)))|apply rR|apply rE|apply rH| (apply cD<;>intro hb<;>(try simp only[SPLT]at hb)<;>try exact noB))
 all_goals try exact false
 repeat' ((conv=>whnf);first|exact endR|with_reducible first|apply And.intro|apply oR|apply oN|apply dC)
 all_goals (conv=>whnf)
 (first|refine rle_agg ?_|refine dle_agg ?_|skip)
 repeat' (first|exact endF|exact endF2|with_reducible apply dC|with_reducible apply dle_agg)
theorem condP_3 (s:Str) (i:Nat) (e0:startsAt s wAll i=false) (e1:startsAt s wAny i=false) (e2:startsAt s wNot i=false) (e3:startsAt s wThere i=true) (hi:i≤s.length) (hs:s.length≤100000000):
  SemO Tryz.prog 18 (.obj (pC s (i,false))) [] (.agg (Cond.mk 4 [] (pathS s (i+6,false)).1 [] 0 0).row) (some (.obj (pC s (pathS s (i+6,false)).2))):=by
 have u0:=isF e0 hi hs (by decide)
 have u1:=isF e1 hi hs (by decide)
 have u2:=isF e2 hi hs (by decide)
 have u3:SemO Tryz.prog 30 (.obj [.str s,.int .i64 i,.bool false]) [.str wThere] (.bool true) (some (.obj [.str s,.int .i64 (i+6:Nat),.bool false])):=isT e3 hi hs (by decide)
 have hle:i+6≤s.length:=starts_le e3 hi
 have c1:=path_sem s (i+6,false) hle hs
 generalize pathS s (i+6,false)=r at *
 unfold pC at *
 dsimp only at c1 ⊢
 rw [Cond.row_mk]
 refine sO [0,2,1000016,1000018,1000020,1000030,1000031,1000032,1000033,1000034,1000036,1000037,1000038,1000040,1000041,1000068,1000070] Tryz.func18 ?_
 repeat'((conv=>whnf);first|(try(first|apply eN|apply eI|apply eC);conv=>whnf);apply sD;(focus first|exact side)|((with_reducible apply CallO.go);(conv=>whnf);apply sD;(focus first|(apply giveso_g (u0);all_goals exact preO)|(apply giveso_g (u1);all_goals exact preO)|(apply giveso_g (u2);all_goals exact preO)|(apply giveso_g (u3);all_goals exact preO)|(apply giveso_g (c1);all_goals exact preO)))|apply rR|apply rE|apply rH| (apply cD<;>intro hb<;>(try simp only[SPLT]at hb)<;>try exact noB))
 all_goals try exact false
 repeat' ((conv=>whnf);first|exact endR|with_reducible first|apply And.intro|apply oR|apply oN|apply dC)
 all_goals (conv=>whnf)
 (first|refine rle_agg ?_|refine dle_agg ?_|skip)
 repeat' (first|exact endF|exact endF2|with_reducible apply dC|with_reducible apply dle_agg)
theorem condP_5 (n:Nat) (s:Str) (i:Nat) (H:CondP n s) (hF:FwdAll s (pcS n s)) (hn:s.length - i < n+1) (e0:startsAt s wAll i=false) (e1:startsAt s wAny i=false) (e2:startsAt s wNot i=false) (e3:startsAt s wThere i=false) (e4:startsAt s wCount i=false) (e5:startsAt s wEach i=true) (hi:i≤s.length) (hs:s.length≤100000000):
  SemO Tryz.prog 18 (.obj (pC s (i,false))) [] (.agg (overS (pcS n s) 7 s (i+5,false)).1.row) (some (.obj (pC s (overS (pcS n s) 7 s (i+5,false)).2))):=by
 have u0:=isF e0 hi hs (by decide)
 have u1:=isF e1 hi hs (by decide)
 have u2:=isF e2 hi hs (by decide)
 have u3:=isF e3 hi hs (by decide)
 have u4:=isF e4 hi hs (by decide)
 have u5:SemO Tryz.prog 30 (.obj [.str s,.int .i64 i,.bool false]) [.str wEach] (.bool true) (some (.obj [.str s,.int .i64 (i+5:Nat),.bool false])):=isT e5 hi hs (by decide)
 have hle:i+5≤s.length:=starts_le e5 hi
 have c1:=overP_sem n s (i+5) 7 H hF (by omega) hle hs
 generalize overS (pcS n s) 7 s (i+5,false)=r at *
 obtain ⟨⟨k0,ks0,pp0,vs0,lo0,hi0⟩,q1⟩:=r
 unfold pC at *
 dsimp only at c1 ⊢
 rw [Cond.row_mk] at c1 ⊢
 refine sO [0,2,1000016,1000018,1000020,1000030,1000031,1000032,1000033,1000034,1000036,1000037,1000038,1000040,1000041,1000068,1000070] Tryz.func18 ?_
 repeat'((conv=>whnf);first|(try(first|apply eN|apply eI|apply eC);conv=>whnf);apply sD;(focus first|exact side)|((with_reducible apply CallO.go);(conv=>whnf);apply sD;(focus first|(apply giveso_g (u0);all_goals exact preO)|(apply giveso_g (u1);all_goals exact preO)|(apply giveso_g (u2);all_goals exact preO)|(apply giveso_g (u3);all_goals exact preO)|(apply giveso_g (u4);all_goals exact preO)|(apply giveso_g (u5);all_goals exact preO)|(apply giveso_g (c1);all_goals exact preO)))|apply rR|apply rE|apply rH| (apply cD<;>intro hb<;>(try simp only[SPLT]at hb)<;>try exact noB))
 all_goals try exact false
 repeat' ((conv=>whnf);first|exact endR|with_reducible first|apply And.intro|apply oR|apply oN|apply dC)
 all_goals (conv=>whnf)
 (first|refine rle_agg ?_|refine dle_agg ?_|skip)
 repeat' (first|exact endF|exact endF2|with_reducible apply dC|with_reducible apply dle_agg)
theorem condP_6 (n:Nat) (s:Str) (i:Nat) (H:CondP n s) (hF:FwdAll s (pcS n s)) (hn:s.length - i < n+1) (e0:startsAt s wAll i=false) (e1:startsAt s wAny i=false) (e2:startsAt s wNot i=false) (e3:startsAt s wThere i=false) (e4:startsAt s wCount i=false) (e5:startsAt s wEach i=false) (e6:startsAt s wSome i=true) (hi:i≤s.length) (hs:s.length≤100000000):
  SemO Tryz.prog 18 (.obj (pC s (i,false))) [] (.agg (overS (pcS n s) 8 s (i+5,false)).1.row) (some (.obj (pC s (overS (pcS n s) 8 s (i+5,false)).2))):=by
 have u0:=isF e0 hi hs (by decide)
 have u1:=isF e1 hi hs (by decide)
 have u2:=isF e2 hi hs (by decide)
 have u3:=isF e3 hi hs (by decide)
 have u4:=isF e4 hi hs (by decide)
 have u5:=isF e5 hi hs (by decide)
 have u6:SemO Tryz.prog 30 (.obj [.str s,.int .i64 i,.bool false]) [.str wSome] (.bool true) (some (.obj [.str s,.int .i64 (i+5:Nat),.bool false])):=isT e6 hi hs (by decide)
 have hle:i+5≤s.length:=starts_le e6 hi
 have c1:=overP_sem n s (i+5) 8 H hF (by omega) hle hs
 generalize overS (pcS n s) 8 s (i+5,false)=r at *
 obtain ⟨⟨k0,ks0,pp0,vs0,lo0,hi0⟩,q1⟩:=r
 unfold pC at *
 dsimp only at c1 ⊢
 rw [Cond.row_mk] at c1 ⊢
 refine sO [0,2,1000016,1000018,1000020,1000030,1000031,1000032,1000033,1000034,1000036,1000037,1000038,1000040,1000041,1000068,1000070] Tryz.func18 ?_
 repeat'((conv=>whnf);first|(try(first|apply eN|apply eI|apply eC);conv=>whnf);apply sD;(focus first|exact side)|((with_reducible apply CallO.go);(conv=>whnf);apply sD;(focus first|(apply giveso_g (u0);all_goals exact preO)|(apply giveso_g (u1);all_goals exact preO)|(apply giveso_g (u2);all_goals exact preO)|(apply giveso_g (u3);all_goals exact preO)|(apply giveso_g (u4);all_goals exact preO)|(apply giveso_g (u5);all_goals exact preO)|(apply giveso_g (u6);all_goals exact preO)|(apply giveso_g (c1);all_goals exact preO)))|apply rR|apply rE|apply rH| (apply cD<;>intro hb<;>(try simp only[SPLT]at hb)<;>try exact noB))
 all_goals try exact false
 repeat' ((conv=>whnf);first|exact endR|with_reducible first|apply And.intro|apply oR|apply oN|apply dC)
 all_goals (conv=>whnf)
 (first|refine rle_agg ?_|refine dle_agg ?_|skip)
 repeat' (first|exact endF|exact endF2|with_reducible apply dC|with_reducible apply dle_agg)
theorem condP_7 (s:Str) (i:Nat) (HT:TestP s) (e0:startsAt s wAll i=false) (e1:startsAt s wAny i=false) (e2:startsAt s wNot i=false) (e3:startsAt s wThere i=false) (e4:startsAt s wCount i=false) (e5:startsAt s wEach i=false) (e6:startsAt s wSome i=false) (hi:i≤s.length) (hs:s.length≤100000000):
  SemO Tryz.prog 18 (.obj (pC s (i,false))) [] (.agg (testS s (i,false)).1.row) (some (.obj (pC s (testS s (i,false)).2))):=by
 have u0:=isF e0 hi hs (by decide)
 have u1:=isF e1 hi hs (by decide)
 have u2:=isF e2 hi hs (by decide)
 have u3:=isF e3 hi hs (by decide)
 have u4:=isF e4 hi hs (by decide)
 have u5:=isF e5 hi hs (by decide)
 have u6:=isF e6 hi hs (by decide)
 have c1:=HT i hi
 generalize testS s (i,false)=r at *
 obtain ⟨⟨k0,ks0,pp0,vs0,lo0,hi0⟩,q1⟩:=r
 unfold pC at *
 dsimp only at c1 ⊢
 rw [Cond.row_mk] at c1 ⊢
 refine sO [0,2,1000016,1000018,1000020,1000030,1000031,1000032,1000033,1000034,1000036,1000037,1000038,1000040,1000041,1000068,1000070] Tryz.func18 ?_
 repeat'((conv=>whnf);first|(try(first|apply eN|apply eI|apply eC);conv=>whnf);apply sD;(focus first|exact side)|((with_reducible apply CallO.go);(conv=>whnf);apply sD;(focus first|(apply giveso_g (u0);all_goals exact preO)|(apply giveso_g (u1);all_goals exact preO)|(apply giveso_g (u2);all_goals exact preO)|(apply giveso_g (u3);all_goals exact preO)|(apply giveso_g (u4);all_goals exact preO)|(apply giveso_g (u5);all_goals exact preO)|(apply giveso_g (u6);all_goals exact preO)|(apply giveso_g (c1);all_goals exact preO)))|apply rR|apply rE|apply rH| (apply cD<;>intro hb<;>(try simp only[SPLT]at hb)<;>try exact noB))
 all_goals try exact false
 repeat' ((conv=>whnf);first|exact endR|with_reducible first|apply And.intro|apply oR|apply oN|apply dC)
 all_goals (conv=>whnf)
 (first|refine rle_agg ?_|refine dle_agg ?_|skip)
 repeat' (first|exact endF|exact endF2|with_reducible apply dC|with_reducible apply dle_agg)
end Go.Proofs.YtindehjiaknokaaGreatDoor
