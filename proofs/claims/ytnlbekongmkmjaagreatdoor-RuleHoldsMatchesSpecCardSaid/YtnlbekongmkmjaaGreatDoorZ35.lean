/- RuleHoldsMatchesSpec, RuleFailsMatchSpec: what the reference says of trees and the laws' walks, given the order of decimals. Order of the reference's decimals, given products (walks). -/
import Derived.Test.YtnlbekongmkmjaaGreatDoorZ29
import Derived.Test.YtnlbekongmkmjaaGreatDoorZ34
import Derived.Test.YtnlbekongmkmjaaGreatDoorZ33
import Derived.Test.YtnlbekongmkmjaaGreatDoorZ13
import Derived.Test.YtnlbekongmkmjaaGreatDoorZ19
import Derived.Test.YtnlbekongmkmjaaGreatDoorZ11
namespace Go.Proofs.YtnlbekongmkmjaaGreatDoor
set_option linter.unusedSimpArgs false
set_option linter.unusedVariables false
open Go.RowKit
set_option maxRecDepth 100000
set_option maxHeartbeats 4000000
theorem Holds4_of (hC:CmpOk) (c:Cond) (t:List Br) (hct:c.Txt) (hl:t.length≤9223372036854775807) (ht:∀ b ∈ t,b.Txt):Sem Tryz.prog 12 [.agg c.row,.sl 0 4 (t.map Br.row)] (.tup [.bool (holdsN c t).1,.int .i64 (holdsN c t).2]):=by
 have h1:=checkCond4_sem c hct
 have h2:=checkTree3_sem t hl ht
 have h3:=fun g1 g2=>holdsOf4_of hC c (err_hok g1) (err_rok g1) t (tree_ok g2)
 clear hC
 unfold holdsN
 generalize c.err=e1 at h1 h3 ⊢
 generalize treeErr t=e2 at h2 h3 ⊢
 generalize c.holds t=r at h3 ⊢
 obtain ⟨k,ks,p,vs,lo,hi⟩:=c
 rw [Cond.row_mk] at h1 h3 ⊢
 by_cases g1:e1=0
 ·rw [if_neg (by simpa using g1)]
  by_cases g2:e2=0
  ·rw [if_neg (by simpa using g2)]
   have h3:=h3 g1 g2
   refine si [1000021,1000034,1000044,1000045,1000084] Tryz.func12 ?_
   repeat'((conv=>whnf);first|(try(first|apply eN|apply eI|apply eC);conv=>whnf);apply sD;(focus first|exact gx h1|exact gx h2|exact gx h3|(refine gx (checkCond4_sem ?_ ?_)<;>exact pre)|(refine gx (checkTree3_sem ?_ ?_ ?_)<;>exact pre)|exact side)|apply rR|apply rE|apply rH|(apply cD<;>intro hb<;>(try simp only[SPLT]at hb)<;>try exact noB))
   all_goals try exact false
   exact finR
  ·rw [if_pos g2]
   clear h3
   refine si [1000021,1000034,1000044,1000045,1000084] Tryz.func12 ?_
   repeat'((conv=>whnf);first|(try(first|apply eN|apply eI|apply eC);conv=>whnf);apply sD;(focus first|exact gx h1|exact gx h2|(refine gx (checkCond4_sem ?_ ?_)<;>exact pre)|(refine gx (checkTree3_sem ?_ ?_ ?_)<;>exact pre)|exact side)|apply rR|apply rE|apply rH|(apply cD<;>intro hb<;>(try simp only[SPLT]at hb)<;>try exact noB))
   all_goals try exact false
   exact finR
 ·rw [if_pos g1]
  clear h3
  refine si [1000021,1000034,1000044,1000045,1000084] Tryz.func12 ?_
  repeat'((conv=>whnf);first|(try(first|apply eN|apply eI|apply eC);conv=>whnf);apply sD;(focus first|exact gx h1|exact gx h2|(refine gx (checkCond4_sem ?_ ?_)<;>exact pre)|(refine gx (checkTree3_sem ?_ ?_ ?_)<;>exact pre)|exact side)|apply rR|apply rE|apply rH|(apply cD<;>intro hb<;>(try simp only[SPLT]at hb)<;>try exact noB))
  all_goals try exact false
  exact finR
theorem rules_rok {l:List Rul} (h:rulesN l=0):∀ r ∈ l,r.c.ROk:=by
 unfold rulesN at h
 split at h
 ·cases h
 ·exact fun r hr=>err_rok (rulesE_names _ _ h r hr).2
theorem Failing4_of (hC:CmpOk) (l:List Rul) (t:List Br) (hok:∀ r ∈ l,r.Ok) (hl:t.length≤9223372036854775807) (ht:∀ b ∈ t,b.Txt):Sem Tryz.prog 14 [.sl 0 7 (l.map Rul.row),.sl 0 4 (t.map Br.row)] (.tup [.sl 0 1 ((failN l t).1.map fun s => [.str s]),.int .i64 (failN l t).2]):=by
 have h1:=checkRules4_sem l hok
 have h2:=checkTree3_sem t hl ht
 have hll:(l.map Rul.row).length=l.length:=List.length_map _
 unfold failN
 by_cases g1:rulesN l=0
 ·by_cases g2:treeErr t=0
  ·have hh:=rules_hok g1
   have hq:=rules_rok g1
   have hfew:=rules_few g1
   have h3:=fun r (hr:r ∈ l)=>holdsOf4_of hC r.c (hh r hr) (hq r hr) t (tree_ok g2)
   clear hC
   rw [if_neg (by simpa using g1),if_neg (by simpa using g2)]
   have eF:(l.filter fun r => !r.c.holds t).map Rul.n=failTo l t l.length:=by unfold failTo;rw [List.take_length]
   rw [eF]
   rw [g1] at h1
   rw [g2] at h2
   refine si [1000021,1000034,1000044,1000045,1000084] Tryz.func14 ?_
   repeat'((conv=>whnf);first|(try(first|apply eN|apply eI|apply eC);conv=>whnf);apply sD;(focus first|exact gx h1|exact gx h2|(refine gx (checkRules4_sem ?_ ?_)<;>exact pre)|(refine gx (checkTree3_sem ?_ ?_ ?_)<;>exact pre)|exact side)|apply rR|apply rE|apply rH|(apply cD<;>intro hb<;>(try simp only[SPLT]at hb)<;>try exact noB))
   all_goals try exact false
   refine loop_go (M:=fun t=>mem t [1000021,1000034,1000044,1000045,1000084]) hT hM (fun k:Nat => [(9,.int .i64 k),(8,.sl 1 1 ((failTo l t k).map fun s => [.str s]))]) (fun k=>k≤l.length) (fun k=>l.length - k) (0) ?_ ?_ ?_
   ·(conv=>whnf)
    refine ⟨?_,by rfl⟩
    repeat' ((conv=>whnf);first|exact endF|(exact dle_nil rfl)|exact endF2|with_reducible apply dC)
   ·exact Nat.zero_le _
   ·rintro k hk
    have hfl:((failTo l t k).map fun s => [D.str s]).length≤1000:=by
     rw [List.length_map]
     unfold failTo
     rw [List.length_map]
     have:=List.length_filter_le (fun r => !r.c.holds t) (l.take k)
     rw [List.length_take] at this
     omega
    cases hx:l[k]? with
    |none=>
     have hm':=List.getElem?_eq_none_iff.1 hx
     obtain rfl:k=l.length:=by omega
     repeat'((conv=>whnf);first|(try(first|apply eN|apply eI|apply eC);conv=>whnf);apply sD;(focus first|(refine gx (checkRules4_sem ?_ ?_)<;>exact pre)|(refine gx (checkTree3_sem ?_ ?_ ?_)<;>exact pre)|exact side)|apply rR|apply rE|apply rH|(apply cD<;>intro hb<;>(try simp only[SPLT]at hb)<;>try exact noB))
     all_goals try exact false
     exact finR
    |some r=>
     have hlt:=(gLt hx)
     have h4:=h3 r (gMem hx)
     have hnx:=failTo_at (t:=t) hx
     clear h3
     obtain ⟨n,c⟩:=r
     dsimp only at h4 hnx
     generalize c.holds t=b at h4 hnx
     obtain ⟨k1,ks1,p1,vs1,lo1,hi1⟩:=c
     rw [Cond.row_mk] at h4
     repeat'((conv=>whnf);first|(try(first|apply eN|apply eI|apply eC);conv=>whnf);apply sD;(focus first|(exact idx_rul hx rfl)|(exact ⟨rfl,rfl,by show _+1≤1000000000;omega⟩)|exact gx h4|(refine gx (checkRules4_sem ?_ ?_)<;>exact pre)|(refine gx (checkTree3_sem ?_ ?_ ?_)<;>exact pre)|exact side)|apply rR|apply rE|apply rH|(apply cD<;>intro hb<;>(try simp only[SPLT]at hb)<;>try exact noB))
     all_goals try exact false
     ·rename_i hb
      rw [if_neg (by simp_all)] at hnx
      refine ⟨k+1,by omega,by omega,?_⟩
      (conv=>whnf)
      refine ⟨?_,by rfl⟩
      repeat' ((conv=>whnf);first|exact endF|(exact dle_sl (by rw [hnx,List.map_append];rfl))|exact endF2|with_reducible apply dC)
     ·rename_i hb
      rw [if_pos (by simp_all)] at hnx
      refine ⟨k+1,by omega,by omega,?_⟩
      (conv=>whnf)
      refine ⟨?_,by rfl⟩
      repeat' ((conv=>whnf);first|exact endF|(exact dle_sl (by rw [hnx]))|exact endF2|with_reducible apply dC)
  ·clear hC
   rw [if_neg (by simpa using g1),if_pos g2]
   rw [g1] at h1
   generalize treeErr t=e2 at h2 g2 ⊢
   refine si [1000021,1000034,1000044,1000045,1000084] Tryz.func14 ?_
   repeat'((conv=>whnf);first|(try(first|apply eN|apply eI|apply eC);conv=>whnf);apply sD;(focus first|exact gx h1|exact gx h2|(refine gx (checkRules4_sem ?_ ?_)<;>exact pre)|(refine gx (checkTree3_sem ?_ ?_ ?_)<;>exact pre)|exact side)|apply rR|apply rE|apply rH|(apply cD<;>intro hb<;>(try simp only[SPLT]at hb)<;>try exact noB))
   all_goals try exact false
   exact finR
 ·clear hC
  rw [if_pos g1]
  generalize rulesN l=e1 at h1 g1 ⊢
  refine si [1000021,1000034,1000044,1000045,1000084] Tryz.func14 ?_
  repeat'((conv=>whnf);first|(try(first|apply eN|apply eI|apply eC);conv=>whnf);apply sD;(focus first|exact gx h1|(refine gx (checkRules4_sem ?_ ?_)<;>exact pre)|(refine gx (checkTree3_sem ?_ ?_ ?_)<;>exact pre)|exact side)|apply rR|apply rE|apply rH|(apply cD<;>intro hb<;>(try simp only[SPLT]at hb)<;>try exact noB))
  all_goals try exact false
  exact finR
theorem law27_of (hC:CmpOk) (c:Cond) (t:List Br) (hct:c.Txt) (hl:t.length≤9223372036854775807) (ht:∀ b ∈ t,b.Txt):Sem Tryz.prog 4 [.agg c.row,.sl 0 4 (t.map Br.row)] (.bool true):=by
 have h1:=Holds_sem c t hl ht
 have h2:=Holds4_of hC c t hct hl ht
 have h3:=awake4_sem
 clear hC
 generalize holdsN c t=r at h1 h2
 obtain ⟨a,f⟩:=r
 obtain ⟨k,ks,p,vs,lo,hi⟩:=c
 rw [Cond.row_mk] at h1 h2 ⊢
 dsimp only at h1 h2
 refine si [1000021,1000034,1000044,1000045,1000084] Tryz.func4 ?_
 repeat'((conv=>whnf);first|(try(first|apply eN|apply eI|apply eC);conv=>whnf);apply sD;(focus(try intro hc;have hc0:=hc;(try simp only[SPLT]at hc);try refine and0 ?_);first|exact gx h1|exact gx h2|exact gx h3|(refine gx (Holds_sem ?_ ?_ ?_ ?_)<;>exact pre)|(refine gx (Holds4_of ?_ ?_ ?_ ?_ ?_ ?_)<;>exact pre)|(refine gx (awake4_sem )<;>exact pre)|exact sideG)|apply rR|apply rE|apply rH|(apply cD<;>intro hb<;>(try simp only[SPLT]at hb)<;>try exact noB))
 all_goals try exact false
 repeat' ((conv=>whnf);first|exact endR|with_reducible first|apply And.intro|apply oR|apply oN|apply dC)
 all_goals (conv=>whnf)
 exact rle_bool (by simp)
theorem law28_of (hC:CmpOk) (l:List Rul) (t:List Br) (hok:∀ r ∈ l,r.Ok) (hl:t.length≤9223372036854775807) (ht:∀ b ∈ t,b.Txt):Sem Tryz.prog 5 [.sl 0 7 (l.map Rul.row),.sl 0 4 (t.map Br.row)] (.bool true):=by
 have h1:=Failing_sem l t hok hl ht
 have h2:=Failing4_of hC l t hok hl ht
 have h3:=awake4_sem
 have h4:=checkRules_sem l hok
 have h5:=checkRules4_sem l hok
 clear hC
 have h6:=equalS_sem (failN l t).1 (failN l t).1
 rw [decide_eq_true rfl] at h6
 generalize failN l t=r at h1 h2 h6
 obtain ⟨a,f⟩:=r
 dsimp only at h1 h2 h6
 generalize (a.map fun s => [D.str s])=ar at h1 h2 h6
 generalize rulesN l=e at h4 h5
 refine si [1000021,1000034,1000044,1000045,1000084] Tryz.func5 ?_
 repeat'((conv=>whnf);first|(try(first|apply eN|apply eC);conv=>whnf);apply sD;(focus(try intro hc;have hc0:=hc;(try simp only[SPLT]at hc);try refine and0 ?_);first|exact gx h1|exact gx h2|exact gx h3|exact gx h4|exact gx h5|exact gx h6|(refine gx (Failing_sem ?_ ?_ ?_ ?_ ?_)<;>exact pre)|(refine gx (Failing4_of ?_ ?_ ?_ ?_ ?_ ?_)<;>exact pre)|(refine gx (checkRules_sem ?_ ?_)<;>exact pre)|(refine gx (checkRules4_sem ?_ ?_)<;>exact pre)|(refine gx (equalS_sem ?_ ?_)<;>exact pre)|(refine gx (awake4_sem )<;>exact pre)|exact sideG)|apply rR|apply rE|apply rH|(apply cD<;>intro hb<;>(try simp only[SPLT]at hb)<;>try exact noB))
 all_goals try exact false
 repeat' ((conv=>whnf);first|exact endR|with_reducible first|apply And.intro|apply oR|apply oN|apply dC)
 all_goals (conv=>whnf)
 exact rle_bool (by simp)
set_option maxHeartbeats 2000000
theorem ROk.neg {k:Nat} {z:Int} (h:ROk k z):ROk k (-z):=by unfold ROk at h ⊢;rwa [Int.natAbs_neg]
theorem cmp1_sem (x y:Int) (hx:ROk 100 x) (hy:ROk 100 y):Sem Tryz.prog 157 [.agg (rC x),.agg (rC y)] (.int .i64 (sgn (x - y))):=by
 have h1:=minus1_sem y
 have h2:=plus1_sem x (-y) hx hy.neg
 have h3:=sign1_sem (x + -y)
 rw [show x - y=x + -y from rfl]
 generalize sgn (x + -y)=r at h3 ⊢
 unfold rC at *
 generalize dg RB (x + -y).natAbs=l3 at *
 generalize decide (x + -y < 0)=s3 at *
 generalize dg RB (-y).natAbs=l2 at *
 generalize decide (-y < 0)=s2 at *
 generalize dg RB y.natAbs=l1 at *
 generalize decide (y < 0)=s1 at *
 generalize dg RB x.natAbs=l0 at *
 generalize decide (x < 0)=s0 at *
 refine si [1000021,1000034,1000044,1000045,1000084] Tryz.func157 ?_
 repeat'((conv=>whnf);first|(try(first|apply eN|apply eI|apply eC);conv=>whnf);apply sD;(focus first|exact gx h1|exact gx h2|exact gx h3|(refine gx (plus1_sem ?_ ?_ ?_ ?_)<;>exact pre)|(refine gx (minus1_sem ?_)<;>exact pre)|(refine gx (plusSame ?_ ?_ ?_ ?_ ?_ ?_ ?_ ?_ ?_ ?_)<;>exact pre)|(refine gx (sign1_sem ?_)<;>exact pre)|exact side)|(first|apply dG|apply kB);kernel_rfl|apply rR|apply rE|apply rH|(apply cD<;>intro hb<;>(try simp only[SPLT]at hb)<;>try exact noB))
 all_goals try exact false
 exact finR
def TimesOk:Prop:=∀ x y:Int,ROk 100 x→ROk 100 y→Sem Tryz.prog 189 [.agg (rC x),.agg (rC y)] (.agg (rC (x * y)))
theorem ROk.mono {k m:Nat} {z:Int} (h:ROk k z) (hk:k≤m):ROk m z:=Nat.lt_of_lt_of_le h (Nat.pow_le_pow_right (by unfold RB;omega) hk)
theorem powR_ok {n:Nat} (h:n≤50):ROk 50 ((10:Int) ^ n):=by
 have e:((10:Int) ^ n).natAbs=10 ^ n:=by rw [Int.natAbs_pow];rfl
 unfold ROk
 rw [e]
 have h1:10 ^ n≤10 ^ 50:=Nat.pow_le_pow_right (by omega) h
 have h2:(10:Nat) ^ 50 < RB ^ 50:=by unfold RB;decide
 omega
theorem power1_of (hT0:TimesOk) (n:Int) (h0:0≤n) (h1:n≤20):Sem Tryz.prog 191 [.int .i64 n] (.agg (rC (10 ^ n.toNat))):=by
 have a1:=of1_sem 1 (by omega) (by omega)
 have a2:=of1_sem 10 (by omega) (by omega)
 have a3:∀ i:Nat,i < n.toNat→Sem Tryz.prog 189 [.agg (rC (10 ^ i)),.agg (rC 10)] (.agg (rC (10 ^ (i+1)))):=fun i hi=>by
  rw [Int.pow_succ]
  exact hT0 _ _ ((powR_ok (by omega)).mono (by omega)) ((powR_ok (n:=1) (by omega)).mono (by omega))
 obtain ⟨N,rfl⟩:∃ N:Nat,n=N:=⟨n.toNat,by omega⟩
 rw [Int.toNat_natCast] at a3 ⊢
 rw [show (1:Int)=10 ^ 0 from rfl] at a1
 generalize hS:(fun i:Nat=>decide ((10:Int) ^ i < 0))=S
 generalize hL:(fun i:Nat=>dg RB ((10:Int) ^ i).natAbs)=L
 have hw:∀ i:Nat,rC ((10:Int) ^ i) = [.bool (S i),.sl 0 1 ((L i).map i64R)]:=fun i=>by rw [← hS,← hL];rfl
 rw [hw] at a1 ⊢
 have a3:∀ i:Nat,i < N→Sem Tryz.prog 189 [.agg [.bool (S i),.sl 0 1 ((L i).map i64R)],.agg (rC 10)] (.agg [.bool (S (i+1)),.sl 0 1 ((L (i+1)).map i64R)]):=fun i hi=>by
  have:=a3 i hi
  rwa [hw,hw] at this
 clear hw hS hL hT0
 obtain ⟨s10,t10,h10⟩:∃ (s:Bool) (t:List Nat),rC 10 = [.bool s,.sl 0 1 (t.map i64R)]:=⟨_,_,rfl⟩
 rw [h10] at a2 a3
 refine si [2,3,5000004,1000021,1000034,1000044,1000045,1000084] Tryz.func191 ?_
 repeat'((conv=>whnf);first|((with_reducible apply DrawI.at 8 [[false,false,false,false],[true,false,false,false],[false,true,false,false],[true,true,false,false],[true,true,true,false],[true,true,true,true]]);exact rfl;kernel_rfl)|with_reducible apply ExE.go|((with_reducible apply EqF.mk);exact rfl)|with_reducible apply AndI.mk|with_reducible exact trivial|(try(first|apply eN|apply eI|apply eC);conv=>whnf);apply sD;(focus first|exact gx a1|(refine gx (of1_sem ?_ ?_ ?_)<;>exact pre)|exact side)|(first|apply dG|apply kB);kernel_rfl|apply rR|apply rE|apply rH|(apply cD<;>intro hb<;>(try simp only[SPLT]at hb)<;>try exact noB))
 all_goals try exact false
 refine loop_go (M:=fun t=>mem t [2,3,5000004,1000021,1000034,1000044,1000045,1000084]) hT hM (fun i:Nat => [(6,.int .i64 i),(3,.obj [.bool (S i),.sl 0 1 ((L i).map i64R)])]) (fun i=>i≤N) (fun i=>N - i) (0) ?_ ?_ ?_
 ·exact finF
 ·exact Nat.zero_le _
 ·rintro i hi
  by_cases hlt:i < N
  ·have a3:=a3 i hlt
   repeat'((conv=>whnf);first|((with_reducible apply DrawI.at 8 [[false,false,false,false],[true,false,false,false],[false,true,false,false],[true,true,false,false],[true,true,true,false],[true,true,true,true]]);exact rfl;kernel_rfl)|with_reducible apply ExE.go|((with_reducible apply EqF.mk);exact rfl)|with_reducible apply AndI.mk|with_reducible exact trivial|(try(first|apply eN|apply eI|apply eC);conv=>whnf);apply sD;(focus first|exact gx a2|exact gx a3|(refine gx (of1_sem ?_ ?_ ?_)<;>exact pre)|exact side)|(first|apply dG|apply kB);kernel_rfl|apply rR|apply rE|apply rH|(apply cD<;>intro hb<;>(try simp only[SPLT]at hb)<;>try exact noB))
   all_goals try exact false
   refine ⟨i+1,by omega,by omega,?_⟩
   exact finF
  ·obtain rfl:i=N:=by omega
   repeat'((conv=>whnf);first|((with_reducible apply DrawI.at 8 [[false,false,false,false],[true,false,false,false],[false,true,false,false],[true,true,false,false],[true,true,true,false],[true,true,true,true]]);exact rfl;kernel_rfl)|with_reducible apply ExE.go|((with_reducible apply EqF.mk);exact rfl)|with_reducible apply AndI.mk|with_reducible exact trivial|(try(first|apply eN|apply eI|apply eC);conv=>whnf);apply sD;(focus first|(refine gx (of1_sem ?_ ?_ ?_)<;>exact pre)|exact side)|(first|apply dG|apply kB);kernel_rfl|apply rR|apply rE|apply rH|(apply cD<;>intro hb<;>(try simp only[SPLT]at hb)<;>try exact noB))
   all_goals try exact false
   exact finR
theorem rok {k:Nat} {z:Int} (hk:8≤k) (h:z.natAbs≤10 ^ 45):ROk k z:=by
 unfold ROk
 have h2:(10:Nat) ^ 45 < RB ^ 8:=by unfold RB;decide
 have h3:RB ^ 8≤RB ^ k:=Nat.pow_le_pow_right (by unfold RB;omega) hk
 omega
theorem at1_of (hT0:TimesOk) (u p:Int) (hu:u.natAbs≤1000000000000000) (h0:0≤p) (h9:p≤9):Sem Tryz.prog 158 [.agg [.int .i64 u,.int .i64 p],.int .i64 9] (.agg (rC (u * 10 ^ (9 - p).toNat))):=by
 have h1:=of1_sem u (by omega) (by omega)
 have h2:=power1_of hT0 (9 - p) (by omega) (by omega)
 have b1:u.natAbs≤10 ^ 45:=by
  have:(10:Nat) ^ 45=1000000000000000 * 10 ^ 30:=by decide
  omega
 have b2:((10:Int) ^ (9 - p).toNat).natAbs≤10 ^ 45:=by
  rw [Int.natAbs_pow]
  show 10 ^ (9 - p).toNat≤10 ^ 45
  exact Nat.pow_le_pow_right (by omega) (by omega)
 have h3:=hT0 u (10 ^ (9 - p).toNat) (rok (by omega) b1) (rok (by omega) b2)
 clear b1 b2
 clear hT0
 generalize hq:9 - p=q at *
 unfold rC at *
 generalize dg RB (u * 10 ^ q.toNat).natAbs=l3 at *
 generalize decide (u * 10 ^ q.toNat < 0)=s3 at *
 generalize dg RB ((10:Int) ^ q.toNat).natAbs=l2 at *
 generalize decide ((10:Int) ^ q.toNat < 0)=s2 at *
 generalize dg RB u.natAbs=l1 at *
 generalize decide (u < 0)=s1 at *
 have w1:IntKind.i64.wrap (9 - p)=q:=by rw [hq];exact IntWalk.i64_in _ (by omega)
 refine si [4,1000021,1000034,1000044,1000045,1000084] Tryz.func158 ?_
 repeat'((conv=>whnf);first|(try(first|apply eN|apply eI|apply eC);conv=>whnf);apply sD;(focus first|(exact w1)|exact gx h1|exact gx h2|exact gx h3|(refine gx (of1_sem ?_ ?_ ?_)<;>exact pre)|(refine gx (power1_of ?_ ?_ ?_ ?_)<;>exact pre)|exact side)|(first|apply dG|apply kB);kernel_rfl|apply rR|apply rE|apply rH|(apply cD<;>intro hb<;>(try simp only[SPLT]at hb)<;>try exact noB))
 all_goals try exact false
 exact finR
theorem within1_sem (n a b:Int):Sem Tryz.prog 185 [.int .i64 n,.int .i64 a,.int .i64 b] (.bool (decide (a≤n) && decide (n≤b))):=by
 refine si [1000021,1000034,1000044,1000045,1000084] Tryz.func185 ?_
 repeat'((conv=>whnf);first|(try(first|apply eN);conv=>whnf);apply sD;(focus(try intro hc;have hc0:=hc;(try simp only[SPLT]at hc);try refine and0 ?_);first|exact sideG)|apply rR|apply rE|apply rH|(apply cD<;>intro hb<;>(try simp only[SPLT]at hb)<;>try exact noB))
 all_goals try exact false
 exact finR
theorem checkDecimal1_sem (u p:Int) (hu:u.natAbs≤1000000000000000) (h0:0≤p) (h9:p≤9):Sem Tryz.prog 156 [.agg [.int .i64 u,.int .i64 p]] (.int .i64 0):=by
 have h1:=within1_sem u (-1000000000000000) 1000000000000000
 have h2:=within1_sem p 0 9
 rw [decide_eq_true (show -1000000000000000≤u by omega),decide_eq_true (show u≤1000000000000000 by omega)] at h1
 rw [decide_eq_true h0,decide_eq_true h9] at h2
 refine si [1000021,1000034,1000044,1000045,1000084] Tryz.func156 ?_
 repeat'((conv=>whnf);first|(try(first|apply eN|apply eI|apply eC);conv=>whnf);apply sD;(focus(try intro hc;have hc0:=hc;(try simp only[SPLT]at hc);try refine and0 ?_);first|exact gx h1|exact gx h2|(refine gx (within1_sem ?_ ?_ ?_)<;>exact pre)|exact sideG)|apply rR|apply rE|apply rH|(apply cD<;>intro hb<;>(try simp only[SPLT]at hb)<;>try exact noB))
 all_goals try exact false
 exact finR
theorem compare1_of (hT0:TimesOk) (u p v:Int) (hu:u.natAbs≤1000000000000000) (h0:0≤p) (h9:p≤9) (hv:v.natAbs≤1000000000000000):Sem Tryz.prog 106 [.agg [.int .i64 u,.int .i64 p],.agg [.int .i64 v,.int .i64 0]] (.tup [.int .i64 (sgn (u * 10 ^ (9 - p).toNat - v * 1000000000)),.int .i64 0]):=by
 have h1:=checkDecimal1_sem u p hu h0 h9
 have h2:=checkDecimal1_sem v 0 hv (by omega) (by omega)
 have h3:=at1_of hT0 u p hu h0 h9
 have h4:=at1_of hT0 v 0 hv (by omega) (by omega)
 rw [show (10:Int) ^ ((9:Int) - 0).toNat=1000000000 from rfl] at h4
 have b45:1000000000000000 * 10 ^ 9≤10 ^ 45:=by decide
 have hb1:(u * 10 ^ (9 - p).toNat).natAbs≤10 ^ 45:=by
  rw [Int.natAbs_mul,Int.natAbs_pow]
  have g1:10 ^ (9 - p).toNat≤10 ^ 9:=Nat.pow_le_pow_right (by omega) (by omega)
  have g2:u.natAbs * 10 ^ (9 - p).toNat≤1000000000000000 * 10 ^ 9:=Nat.mul_le_mul hu g1
  exact Nat.le_trans g2 b45
 have hb2:(v * 1000000000).natAbs≤10 ^ 45:=by
  rw [Int.natAbs_mul]
  exact Nat.le_trans (Nat.mul_le_mul hv (show (1000000000:Int).natAbs≤10 ^ 9 by decide)) b45
 have h5:=cmp1_sem (u * 10 ^ (9 - p).toNat) (v * 1000000000) (rok (by omega) hb1) (rok (by omega) hb2)
 generalize sgn (u * 10 ^ (9 - p).toNat - v * 1000000000)=r at h5 ⊢
 generalize u * 10 ^ (9 - p).toNat=a at *
 generalize v * 1000000000=b at *
 clear hb1 hb2 b45 hT0
 unfold rC at *
 generalize dg RB a.natAbs=l1 at *
 generalize decide (a < 0)=s1 at *
 generalize dg RB b.natAbs=l2 at *
 generalize decide (b < 0)=s2 at *
 refine si [1000021,1000034,1000044,1000045,1000084] Tryz.func106 ?_
 repeat'((conv=>whnf);first|(try(first|apply eN|apply eI|apply eC);conv=>whnf);apply sD;(focus(try intro hc;have hc0:=hc;(try simp only[SPLT]at hc);try refine and0 ?_);first|exact gx h1|exact gx h2|exact gx h3|exact gx h4|exact gx h5|(refine gx (checkDecimal1_sem ?_ ?_ ?_ ?_ ?_)<;>exact pre)|(refine gx (at1_of ?_ ?_ ?_ ?_ ?_ ?_)<;>exact pre)|(refine gx (cmp1_sem ?_ ?_ ?_ ?_)<;>exact pre)|exact sideG)|(first|apply dG|apply kB);kernel_rfl|apply rR|apply rE|apply rH|(apply cD<;>intro hb<;>(try simp only[SPLT]at hb)<;>try exact noB))
 all_goals try exact false
 exact finR
theorem cmpOk_of (hT0:TimesOk):CmpOk:=fun u p v hu h0 h9 hv=>compare1_of hT0 u p v hu h0 h9 hv
end Go.Proofs.YtnlbekongmkmjaaGreatDoor
