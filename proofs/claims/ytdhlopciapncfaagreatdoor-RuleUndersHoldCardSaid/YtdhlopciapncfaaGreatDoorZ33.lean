/- Texts of decimals, read by the program (walks). What conditions say of trees: the program's HoldsOf (walks). HoldsOf of the program (walks). The groups of a right tree are right trees (plain). -/
import Derived.Test.YtdhlopciapncfaaGreatDoorZ9
import Derived.Test.YtdhlopciapncfaaGreatDoorZ19
import Derived.Test.YtdhlopciapncfaaGreatDoorZ32
import Derived.Test.YtdhlopciapncfaaGreatDoorZ15
import Derived.Test.YtdhlopciapncfaaGreatDoorZ31
import Derived.Test.YtdhlopciapncfaaGreatDoorZ24
namespace Go.Proofs.YtdhlopciapncfaaGreatDoor
set_option linter.unusedSimpArgs false
set_option linter.unusedVariables false
open Go.RowKit
set_option maxRecDepth 100000
set_option maxHeartbeats 2000000
def idl88_5:List (List Bool) := [[false,false,false,false,false,false,false,false,false,false,false,false,false],[true,false,false,false,false,false,false,false,false,false,false,false,false],[false,true,false,false,false,false,false,false,false,false,false,false,false],[false,false,false,true,false,false,false,false,false,false,false,false,false],[false,false,false,false,true,false,false,false,false,false,false,false,false],[false,false,false,false,false,false,true,false,false,false,false,false,false],[true,true,false,false,false,false,false,false,false,false,false,false,false],[true,false,false,true,false,false,false,false,false,false,false,false,false],[true,false,false,false,true,false,false,false,false,false,false,false,false],[true,false,false,false,false,false,true,false,false,false,false,false,false],[false,true,false,true,false,false,false,false,false,false,false,false,false],[false,true,false,false,true,false,false,false,false,false,false,false,false],[false,true,false,false,false,false,true,false,false,false,false,false,false],[false,false,false,true,true,false,false,false,false,false,false,false,false],[false,false,false,true,false,false,true,false,false,false,false,false,false],[false,false,false,false,true,false,true,false,false,false,false,false,false],[true,true,true,false,false,false,false,false,false,false,false,false,false],[true,true,false,true,false,false,false,false,false,false,false,false,false],[true,true,false,false,true,false,false,false,false,false,false,false,false],[true,true,false,false,false,false,true,false,false,false,false,false,false],[true,false,false,true,true,false,false,false,false,false,false,false,false],[true,false,false,true,false,false,true,false,false,false,false,false,false],[true,false,false,false,true,false,true,false,false,false,false,false,false],[false,true,false,true,true,false,false,false,false,false,false,false,false],[false,true,false,true,false,false,true,false,false,false,false,false,false],[false,true,false,false,true,false,true,false,false,false,false,false,false],[false,false,false,true,true,true,false,false,false,false,false,false,false],[false,false,false,true,true,false,true,false,false,false,false,false,false],[true,true,true,true,false,false,false,false,false,false,false,false,false],[true,true,true,false,true,false,false,false,false,false,false,false,false],[true,true,true,false,false,false,true,false,false,false,false,false,false],[true,true,false,true,true,false,false,false,false,false,false,false,false],[true,true,false,true,false,false,true,false,false,false,false,false,false],[true,true,false,false,true,false,true,false,false,false,false,false,false],[true,false,false,true,true,true,false,false,false,false,false,false,false],[true,false,false,true,true,false,true,false,false,false,false,false,false],[false,true,false,true,true,true,false,false,false,false,false,false,false],[false,true,false,true,true,false,true,false,false,false,false,false,false],[false,false,false,true,true,true,true,false,false,false,false,false,false],[true,true,true,true,true,false,false,false,false,false,false,false,false],[true,true,true,true,false,false,true,false,false,false,false,false,false],[true,true,true,false,true,false,true,false,false,false,false,false,false],[true,true,false,true,true,true,false,false,false,false,false,false,false],[true,true,false,true,true,false,true,false,false,false,false,false,false],[true,false,false,true,true,true,true,false,false,false,false,false,false],[false,true,false,true,true,true,true,false,false,false,false,false,false],[false,false,false,true,true,true,true,true,false,false,false,false,false],[true,true,true,true,true,true,false,false,false,false,false,false,false],[true,true,true,true,true,false,true,false,false,false,false,false,false],[true,true,false,true,true,true,true,false,false,false,false,false,false],[true,false,false,true,true,true,true,true,false,false,false,false,false],[false,true,false,true,true,true,true,true,false,false,false,false,false],[false,false,false,true,true,true,true,true,true,false,false,false,false],[true,true,true,true,true,true,true,false,false,false,false,false,false],[true,true,false,true,true,true,true,true,false,false,false,false,false],[true,false,false,true,true,true,true,true,true,false,false,false,false],[false,true,false,true,true,true,true,true,true,false,false,false,false],[false,false,false,true,true,true,true,true,true,true,false,false,false],[true,true,true,true,true,true,true,true,false,false,false,false,false],[true,true,false,true,true,true,true,true,true,false,false,false,false],[true,false,false,true,true,true,true,true,true,true,false,false,false],[false,true,false,true,true,true,true,true,true,true,false,false,false],[true,true,true,true,true,true,true,true,true,false,false,false,false],[true,true,false,true,true,true,true,true,true,true,false,false,false],[true,true,true,true,true,true,true,true,true,true,false,false,false],[true,true,true,true,true,true,true,true,true,true,true,false,false],[true,true,true,true,true,true,true,true,true,true,true,true,false],[true,true,true,true,true,true,true,true,true,true,true,true,true]]
theorem cut_cutB (c:UInt8):∀ s:List UInt8,Lib.cut s [c]=cutB c s
 |[]=>rfl
 |b::l=>by
  have ih:=cut_cutB c l
  unfold Lib.cut at ih ⊢
  rw [cutB]
  by_cases h:b=c
  ·subst h
   have e:Lib.index (b::l) [b]=0:=by rw [Lib.index];simp
   rw [if_pos rfl,e,if_pos (by decide)]
   rfl
  ·have hge:=Lib.index_ge l [c]
   have hp:List.isPrefixOf [c] (b::l)=false:=by
    rw [Bool.eq_false_iff]
    intro e
    simp [List.isPrefixOf] at e
    exact h e.symm
   rw [if_neg h]
   by_cases hi:Lib.index l [c] = -1
   ·have e:Lib.index (b::l) [c] = -1:=by rw [Lib.index,if_neg (by rw [hp];decide),if_pos (by rw [hi];rfl)]
    rw [hi,if_neg (by decide)] at ih
    rw [e,if_neg (by decide),← ih]
   ·have e:Lib.index (b::l) [c]=Lib.index l [c]+1:=by rw [Lib.index,if_neg (by rw [hp];decide),if_neg (by simpa using hi)]
    rw [if_pos (by omega)] at ih
    rw [e,if_pos (by omega),← ih]
    rw [show (Lib.index l [c]+1).toNat=(Lib.index l [c]).toNat+1 by omega]
    simp [Nat.add_right_comm]
theorem cut_sem (s:Str) (hs:s.length < 4294967281):Sem Tryz.prog 86 [.str s,.str [46]] (.tup [.str (cutB 46 s).1,.str (cutB 46 s).2.1,.bool (cutB 46 s).2.2]):=by
 refine ⟨inferInstance,rfl,fun S w vs hw hl hr => ?_⟩
 obtain rfl:=vals_eq (q:=fun i=>.slot i) (us := [.string ⟨s.toArray⟩,.string ⟨#[46]⟩]) rfl hl hr
 have hsz:(⟨s.toArray⟩:ByteArray).size=s.length:=by show s.toArray.size=_;simp
 obtain ⟨m,hm⟩:=int_there (g:=0) rfl hw.gl
 refine (Tryz.strings_Cut ⟨s.toArray⟩ ⟨#[46]⟩ m w (by rw [hsz];exact hs) hm).mono fun e w' ⟨he,n,hw'⟩ => ?_
 subst hw'
 have hc:Lib.cut (⟨s.toArray⟩:ByteArray).data.toList (⟨#[46]⟩:ByteArray).data.toList=cutB 46 s:=cut_cutB 46 s
 rw [hc] at he
 have t:Trans S w S (w.drewN n):=⟨rfl,rfl,rfl,Nat.le_refl _,fun _ _ h=>⟨rfl,h⟩,fun _ _ _ _ h _=>⟨rfl,h⟩,fun _ _ _ _ h=>⟨Keeps.refl _ _,fun x hx=>by rw [h] at hx;cases hx;exact Nat.le_refl _⟩,rfl⟩
 exact ⟨_,S,he,hw.of t fun b x h=>hw.lt b x h,t,.tup _ rfl fun j d v hd hv=>by
  match j,hd,hv with
  |0,hd,hv=>cases hd;cases hv;exact .fz (.str _)
  |1,hd,hv=>cases hd;cases hv;exact .fz (.str _)
  |2,hd,hv=>cases hd;cases hv;exact .fz (.bool _)
  | j+3,hd,_=>simp at hd⟩
theorem cutPrefix_sem (s:Str) (hs:s.length≤9223372036854775807):Sem Tryz.prog 85 [.str s,.str [45]] (.tup [.str (restN s),.bool (negB s)]):=by
 have h1:Sem Tryz.prog 140 [.str s,.str [45]] (.bool (negB s)):=by
  cases s with
  |nil=>
   refine si [] Tryz.func140 ?_
   repeat'((conv=>whnf);first|(try(first|apply eN|apply eC);conv=>whnf);apply sD;(focus(try intro hc;have hc0:=hc;(try simp only[SPLT]at hc);try refine and0 ?_);first|exact sideG)|apply rR|apply rE|apply rH| (apply cD<;>intro hb<;>(try simp only[SPLT]at hb)<;>try exact noB))
   all_goals try exact false
   exact finR
  |cons b t=>
   refine si [] Tryz.func140 ?_
   repeat'((conv=>whnf);first|(try(first|apply eN|apply eC);conv=>whnf);apply sD;(focus(try intro hc;have hc0:=hc;(try simp only[SPLT]at hc);try refine and0 ?_);first|exact sideG)|apply rR|apply rE|apply rH| (apply cD<;>intro hb<;>(try simp only[SPLT]at hb)<;>try exact noB))
   all_goals try exact false
   repeat' ((conv=>whnf);first|exact endR|with_reducible first|apply And.intro|apply oR|apply oN|apply dC)
   all_goals (conv=>whnf)
   refine rle_bool ?_
   unfold negB
   have:(List.drop (Int.toNat 0) (List.take (([45]:List UInt8).length:Int).toNat (b::t)) == [45])=decide ((b::t).head?=some 45):=by
    show ([b] == [45])=_
    rw [Bool.eq_iff_iff,beq_iff_eq,decide_eq_true_eq]
    simp
   rw [this]
   simp
   intro _
   omega
 have h2:Sem Tryz.prog 114 [.str s,.str [45]] (.tup [.str (restN s),.bool (negB s)]):=by
  have hn:negB s=true→1≤s.length:=fun h=>by
   cases s with
   |nil=>cases h
   |cons b t=>simp
  unfold restN
  generalize negB s=n at h1 hn ⊢
  refine si [] Tryz.func114 ?_
  repeat'((conv=>whnf);first|(try(first|apply eN|apply eC);conv=>whnf);apply sD;(focus first|(exact ⟨by decide,by have:=hn (by simp_all);simp;omega,by omega⟩)|exact gx h1|exact side)|apply rR|apply rE|apply rH| (apply cD<;>intro hb<;>(try simp only[SPLT]at hb)<;>try exact noB))
  all_goals try exact false
  ·subst hb
   repeat' ((conv=>whnf);first|exact endR|with_reducible first|apply And.intro|apply oR|apply oN|apply dC)
   all_goals (conv=>whnf)
   exact rle_str (by rw [if_neg (by simp)])
  ·subst hb
   repeat' ((conv=>whnf);first|exact endR|with_reducible first|apply And.intro|apply oR|apply oN|apply dC)
   all_goals (conv=>whnf)
   refine rle_str ?_
   rw [if_pos rfl]
   show (List.take (s.length:Int).toNat s).drop 1=_
   rw [Int.toNat_natCast,List.take_length]
   cases s<;>rfl
 refine si [] Tryz.func85 ?_
 repeat'((conv=>whnf);first|(try(first|apply eN|apply eC);conv=>whnf);apply sD;(focus first|exact gx h2|exact side)|apply rR|apply rE|apply rH| (apply cD<;>intro hb<;>(try simp only[SPLT]at hb)<;>try exact noB))
 all_goals try exact false
 exact finR
theorem isWhole_sem (s:Str) (hs:s.length≤9223372036854775807):Sem Tryz.prog 87 [.str s] (.bool (isWholeB s)):=by
 have h1:=isDigits_sem s hs
 have hd:isDigB s=true→1≤s.length:=fun h=>by
  cases s with
  |nil=>cases h
  |cons b t=>simp
 unfold isWholeB
 rw [show (!(s == []) && s.all digByte)=isDigB s from rfl] at h1
 generalize isDigB s=d at h1 hd ⊢
 refine si [] Tryz.func87 ?_
 repeat'((conv=>whnf);first|(try(first|apply eN|apply eC);conv=>whnf);apply sD;(focus(try intro hc;have hc0:=hc;(try simp only[SPLT]at hc);try refine and0 ?_);first|(exact ⟨by omega,by have:=hd (by simp_all);omega⟩)|exact gx h1|(refine gx (isDigits_sem ?_ ?_)<;>exact pre)|exact sideG)|apply rR|apply rE|apply rH| (apply cD<;>intro hb<;>(try simp only[SPLT]at hb)<;>try exact noB))
 all_goals try exact false
 repeat' ((conv=>whnf);first|exact endR|with_reducible first|apply And.intro|apply oR|apply oN|apply dC)
 all_goals (conv=>whnf)
 refine rle_bool ?_
 rw [Bool.eq_iff_iff]
 simp only [Bool.and_eq_true,Bool.or_eq_true,beq_iff_eq,Bool.not_eq_true',beq_eq_false_iff_ne,decide_eq_true_eq,decide_eq_false_iff_not,ne_eq]
 constructor<;>rintro ⟨h,h'⟩<;>refine ⟨h,?_⟩<;>omega
def madeD (z p:Int):Int × Int × Int:=if (z.natAbs:Int)≤1000000000000000 then (z,p,0) else (0,0,1)
theorem made10_sem (z p:Int):Sem Tryz.prog 118 [.agg (wC z),.int .i64 p] (.tup [.agg [.int .i64 (madeD z p).1,.int .i64 (madeD z p).2.1],.int .i64 (madeD z p).2.2]):=by
 have h1:=int_sem z 1000000000000000 (by omega) (by omega)
 unfold intW at h1
 unfold madeD
 unfold wC at h1 ⊢
 generalize dg WB z.natAbs=l at h1 ⊢
 generalize decide (z < 0)=sz at h1 ⊢
 by_cases h:(z.natAbs:Int)≤1000000000000000
 ·rw [if_pos h] at h1 ⊢
  refine si [4] Tryz.func118 ?_
  repeat'((conv=>whnf);first|(try(first|apply eN|apply eI|apply eC);conv=>whnf);apply sD;(focus first|exact gx h1|(refine gx (int_sem ?_ ?_ ?_ ?_)<;>exact pre)|exact side)|apply rR|apply rE|apply rH| (apply cD<;>intro hb<;>(try simp only[SPLT]at hb)<;>try exact noB))
  all_goals try exact false
  exact finR
 ·rw [if_neg h] at h1 ⊢
  refine si [4] Tryz.func118 ?_
  repeat'((conv=>whnf);first|(try(first|apply eN|apply eI|apply eC);conv=>whnf);apply sD;(focus first|exact gx h1|(refine gx (int_sem ?_ ?_ ?_ ?_)<;>exact pre)|exact side)|apply rR|apply rE|apply rH| (apply cD<;>intro hb<;>(try simp only[SPLT]at hb)<;>try exact noB))
  all_goals try exact false
  exact finR
theorem wok {k:Nat} {z:Int} (hk:5≤k) (h:z.natAbs≤10 ^ 45):WOk k z:=by
 unfold WOk
 have h1:10 ^ 45 < WB ^ 5:=by unfold WB;decide
 have h2:=pow_le_pow' WB2 hk
 omega
theorem valN_le {s:List UInt8} (h:s.all digByte=true) (hl:s.length≤40):0≤valN s∧(valN s).natAbs≤10 ^ 40:=by
 obtain ⟨h1,h2⟩:=valN_bd h
 refine ⟨h1,?_⟩
 have h3:10 ^ s.length≤10 ^ 40:=Nat.pow_le_pow_right (by omega) hl
 have h5:((10 ^ s.length:Nat):Int)=(10:Int) ^ s.length:=by simp
 omega
theorem read_sem (neg:Bool) (a b:Str) (ha:a.all digByte=true) (hb0:b.all digByte=true) (hl:a.length+b.length≤40):Sem Tryz.prog 88 [.bool neg,.str a,.str b] (.tup [.agg [.int .i64 (readN neg a b).1,.int .i64 (readN neg a b).2.1],.int .i64 (readN neg a b).2.2]):=by
 have o0:=of_sem 0 (by omega) (by omega)
 have o10:=of_sem 10 (by omega) (by omega)
 have hab:(a++b).all digByte=true:=by rw [List.all_append,ha,hb0];rfl
 have habl:(a++b).length=a.length+b.length:=List.length_append
 have htk:∀ i:Nat,((a++b).take i).all digByte=true∧((a++b).take i).length≤40:=fun i=>by
  refine ⟨?_,by rw [List.length_take];omega⟩
  rw [List.all_eq_true] at hab ⊢
  exact fun x hx=>hab x (List.mem_of_mem_take hx)
 have step:∀ (i:Nat) (x:UInt8),(a++b)[i]?=some x→Sem Tryz.prog 61 [.agg (wC (valN ((a++b).take i))),.agg (wC 10)] (.agg (wC (valN ((a++b).take i) * 10)))∧Sem Tryz.prog 60 [.int .i64 ((x.toNat:Int) - 48)] (.agg (wC ((x.toNat:Int) - 48)))∧
   Sem Tryz.prog 116 [.agg (wC (valN ((a++b).take i) * 10)),.agg (wC ((x.toNat:Int) - 48))] (.agg (wC (valN ((a++b).take (i+1))))):=fun i x hx=>by
  obtain ⟨v1,v2⟩:=valN_le (htk i).1 (htk i).2
  have hx2:=x.toNat_lt
  have hmul:(valN ((a++b).take i) * 10).natAbs≤10 ^ 45:=by rw [Int.natAbs_mul];show _ * 10≤_;omega
  refine ⟨times_sem _ _ (wok (by omega) (by omega)) (wok (by omega) (by decide)),of_sem _ (by omega) (by omega),?_⟩
  have h:=plus_sem (valN ((a++b).take i) * 10) ((x.toNat:Int) - 48) (wok (by omega) hmul) (wok (by omega) (by omega))
  rw [valN_take hx,Int.mul_comm 10]
  exact h
 have hmn:=minus_sem (valN (a++b)) (wok (by omega) (by have:=(valN_le hab (by omega)).2;omega))
 have hsg:=sign_sem (valN (a++b))
 have hv0:=(valN_le hab (by omega)).1
 have m1:=made10_sem (valN (a++b)) b.length
 have m2:=made10_sem (-valN (a++b)) b.length
 have hr:readN neg a b=if neg=true∧valN (a++b)=0 then (0,0,10) else if 1000000000000000 < valN (a++b) then (0,0,1) else ((if neg=true then -valN (a++b) else valN (a++b)),(b.length:Int),0):=rfl
 have hm1:madeD (valN (a++b)) b.length=if 1000000000000000 < valN (a++b) then (0,0,1) else (valN (a++b),(b.length:Int),0):=by
  unfold madeD
  by_cases h:1000000000000000 < valN (a++b)
  ·rw [if_pos h,if_neg (by omega)]
  ·rw [if_neg h,if_pos (by omega)]
 have hm2:madeD (-valN (a++b)) b.length=if 1000000000000000 < valN (a++b) then (0,0,1) else (-valN (a++b),(b.length:Int),0):=by
  unfold madeD
  by_cases h:1000000000000000 < valN (a++b)
  ·rw [if_pos h,if_neg (by omega)]
  ·rw [if_neg h,if_pos (by omega)]
 generalize readN neg a b=r at hr ⊢
 rw [hm1] at m1
 rw [hm2] at m2
 have w0:valN ((a++b).take 0)=0:=by rw [List.take_zero];rfl
 have wl:valN ((a++b).take (a++b).length)=valN (a++b):=by rw [List.take_length]
 generalize hV:(fun i:Nat=>valN ((a++b).take i))=V
 have eV:∀ i,valN ((a++b).take i)=V i:=fun i=>by rw [← hV]
 simp only [eV] at step w0 wl
 generalize valN (a++b)=v at *
 clear hm1 hm2 hV eV
 unfold wC at *
 refine si [5000005,6,8] Tryz.func88 ?_
 repeat'((conv=>whnf);first|((with_reducible apply DrawI.at 18 idl88_5);exact rfl;kernel_rfl)|with_reducible apply ExE.go|((with_reducible apply EqF.mk);exact rfl)|with_reducible apply AndI.mk|with_reducible exact trivial|(try(first|apply eN|apply eI|apply eT|apply eC);conv=>whnf);apply sD;(focus first|exact gx o0|(refine gx (of_sem ?_ ?_ ?_)<;>exact pre)|(refine gx (times_sem ?_ ?_ ?_ ?_)<;>exact pre)|(refine gx (plus_sem ?_ ?_ ?_ ?_)<;>exact pre)|(refine gx (sign_sem ?_)<;>exact pre)|(refine gx (minus_sem ?_ ?_)<;>exact pre)|(refine gx (made10_sem ?_ ?_)<;>exact pre)|exact side)|(first|apply dG|apply kB);kernel_rfl|apply rR|apply rE|apply rH| (apply cD<;>intro hb<;>(try simp only[SPLT]at hb)<;>try exact noB))
 all_goals try exact false
 refine loop_go (M:=fun t=>mem t [5000005,6,8]) hT hM (fun i:Nat => [(15,.int .i64 i),(8,.obj [.bool (decide (V i < 0)),.sl 0 1 ((dg WB (V i).natAbs).map u32R)])]) (fun i=>i≤(a++b).length) (fun i=>(a++b).length - i) (0) ?_ ?_ ?_
 ·(conv=>whnf)
  refine ⟨?_,by rfl⟩
  repeat' ((conv=>whnf);first|exact endF|(exact DLe.of_eq (by rw [w0]))|exact endF2|with_reducible apply dC)
 ·exact Nat.zero_le _
 ·rintro i hi
  cases hx:(a++b)[i]? with
  |some x=>
   have hlt:=(gLt hx)
   obtain ⟨s1,s2,s3⟩:=step i x hx
   have hxd:digByte x=true:=List.all_eq_true.1 hab x (gMem hx)
   unfold digByte at hxd
   simp only [Bool.and_eq_true,decide_eq_true_eq] at hxd
   have hgd:((a++b).getD (i:Int).toNat 0).toNat=x.toNat:=by rw [Int.toNat_natCast,List.getD_eq_getElem?_getD,hx];rfl
   have w1:IntKind.u8.wrap ((((a++b).getD (i:Int).toNat 0).toNat:Int) - 48)=(x.toNat:Int) - 48:=by rw [hgd];exact IntWalk.u8_in _ (by omega)
   have w2:IntKind.i64.wrap ((x.toNat:Int) - 48)=(x.toNat:Int) - 48:=IntWalk.i64_in _ (by have:=x.toNat_lt;omega)
   repeat'((conv=>whnf);first|((with_reducible apply DrawI.at 18 idl88_5);exact rfl;kernel_rfl)|with_reducible apply ExE.go|((with_reducible apply EqF.mk);exact rfl)|with_reducible apply AndI.mk|with_reducible exact trivial|(try(first|apply eN|apply eI|apply eT|apply eC);conv=>whnf);apply sD;(focus first|(exact w1)|(exact w2)|exact gx o10|exact gx s1|exact gx s2|exact gx s3|(refine gx (of_sem ?_ ?_ ?_)<;>exact pre)|(refine gx (times_sem ?_ ?_ ?_ ?_)<;>exact pre)|(refine gx (plus_sem ?_ ?_ ?_ ?_)<;>exact pre)|(refine gx (sign_sem ?_)<;>exact pre)|(refine gx (minus_sem ?_ ?_)<;>exact pre)|(refine gx (made10_sem ?_ ?_)<;>exact pre)|exact side)|(first|apply dG|apply kB);kernel_rfl|apply rR|apply rE|apply rH| (apply cD<;>intro hb<;>(try simp only[SPLT]at hb)<;>try exact noB))
   all_goals try exact false
   refine ⟨i+1,by omega,by omega,?_⟩
   exact finF
  |none=>
   have hm:=List.getElem?_eq_none_iff.1 hx
   obtain rfl:i=(a++b).length:=by omega
   rw [wl]
   cases neg with
   |false=>
    rw [if_neg (by simp)] at hr
    rw [show (if false=true then -v else v)=v from rfl] at hr
    rw [← hr] at m1
    repeat'((conv=>whnf);first|((with_reducible apply DrawI.at 18 idl88_5);exact rfl;kernel_rfl)|with_reducible apply ExE.go|((with_reducible apply EqF.mk);exact rfl)|with_reducible apply AndI.mk|with_reducible exact trivial|(try(first|apply eN|apply eI|apply eT|apply eC);conv=>whnf);apply sD;(focus first|exact gx m1|(refine gx (of_sem ?_ ?_ ?_)<;>exact pre)|(refine gx (times_sem ?_ ?_ ?_ ?_)<;>exact pre)|(refine gx (plus_sem ?_ ?_ ?_ ?_)<;>exact pre)|(refine gx (sign_sem ?_)<;>exact pre)|(refine gx (minus_sem ?_ ?_)<;>exact pre)|(refine gx (made10_sem ?_ ?_)<;>exact pre)|exact side)|(first|apply dG|apply kB);kernel_rfl|apply rR|apply rE|apply rH| (apply cD<;>intro hb<;>(try simp only[SPLT]at hb)<;>try exact noB))
    all_goals try exact false
    exact finR
   |true=>
    by_cases hv:v=0
    ·rw [if_pos ⟨rfl,hv⟩] at hr
     subst hr
     have h0:sgn v=0:=by unfold sgn;rw [if_neg (by omega),if_pos hv]
     rw [h0] at hsg
     repeat'((conv=>whnf);first|((with_reducible apply DrawI.at 18 idl88_5);exact rfl;kernel_rfl)|with_reducible apply ExE.go|((with_reducible apply EqF.mk);exact rfl)|with_reducible apply AndI.mk|with_reducible exact trivial|(try(first|apply eN|apply eI|apply eT|apply eC);conv=>whnf);apply sD;(focus first|exact gx hsg|(refine gx (of_sem ?_ ?_ ?_)<;>exact pre)|(refine gx (times_sem ?_ ?_ ?_ ?_)<;>exact pre)|(refine gx (plus_sem ?_ ?_ ?_ ?_)<;>exact pre)|(refine gx (sign_sem ?_)<;>exact pre)|(refine gx (minus_sem ?_ ?_)<;>exact pre)|(refine gx (made10_sem ?_ ?_)<;>exact pre)|exact side)|(first|apply dG|apply kB);kernel_rfl|apply rR|apply rE|apply rH| (apply cD<;>intro hb<;>(try simp only[SPLT]at hb)<;>try exact noB))
     all_goals try exact false
     exact finR
    ·rw [if_neg (by simp [hv])] at hr
     rw [show (if true=true then -v else v) = -v from rfl] at hr
     rw [← hr] at m2
     have h0:sgn v=1:=by unfold sgn;rw [if_neg (by omega),if_neg hv]
     rw [h0] at hsg
     repeat'((conv=>whnf);first|((with_reducible apply DrawI.at 18 idl88_5);exact rfl;kernel_rfl)|with_reducible apply ExE.go|((with_reducible apply EqF.mk);exact rfl)|with_reducible apply AndI.mk|with_reducible exact trivial|(try(first|apply eN|apply eI|apply eT|apply eC);conv=>whnf);apply sD;(focus first|exact gx hsg|exact gx hmn|exact gx m2|(refine gx (of_sem ?_ ?_ ?_)<;>exact pre)|(refine gx (times_sem ?_ ?_ ?_ ?_)<;>exact pre)|(refine gx (plus_sem ?_ ?_ ?_ ?_)<;>exact pre)|(refine gx (sign_sem ?_)<;>exact pre)|(refine gx (minus_sem ?_ ?_)<;>exact pre)|(refine gx (made10_sem ?_ ?_)<;>exact pre)|exact side)|(first|apply dG|apply kB);kernel_rfl|apply rR|apply rE|apply rH| (apply cD<;>intro hb<;>(try simp only[SPLT]at hb)<;>try exact noB))
     all_goals try exact false
     exact finR
theorem cutB_nil (c:UInt8):∀ t:List UInt8,(cutB c t).2.2=false→(cutB c t).2.1 = []
 |[],_=>rfl
 |b::r,h=>by
  rw [cutB] at h ⊢
  split at h
  ·cases h
  ·rename_i g
   rw [if_neg g]
   exact cutB_nil c r h
theorem readText_sem (s:Str) (hs:s.length≤1000):Sem Tryz.prog 56 [.str s] (.tup [.agg [.int .i64 (decN s).1,.int .i64 (decN s).2.1],.int .i64 (decN s).2.2]):=by
 have h1:=cutPrefix_sem s (by omega)
 have h2:=cut_sem (restN s) (by have:=restN_len s;omega)
 have hcl:=cutB_len 46 (restN s)
 have hrl:=restN_len s
 have hnil:=cutB_nil 46 (restN s)
 have hr:decN s=if 40 < s.length∨isWholeB (cutB 46 (restN s)).1=false∨((cutB 46 (restN s)).2.2=true∧(isDigB (cutB 46 (restN s)).2.1=false∨9 < (cutB 46 (restN s)).2.1.length)) then (0,0,10) else readN (negB s) (cutB 46 (restN s)).1 (cutB 46 (restN s)).2.1:=rfl
 generalize decN s=r at hr ⊢
 generalize negB s=neg at h1 hr
 generalize hcc:cutB 46 (restN s)=cc at h2 hcl hnil hr
 obtain ⟨a,b,pt⟩:=cc
 dsimp only at h2 hcl hnil hr
 generalize restN s=rs at h1 h2 hrl hcl hcc
 have h3:=isWhole_sem a (by omega)
 have h4:=isDigits_sem b (by omega)
 rw [show (!(b == []) && b.all digByte)=isDigB b from rfl] at h4
 have hwd:isWholeB a=true→a.all digByte=true:=fun h=>by
  unfold isWholeB isDigB at h
  simp only [Bool.and_eq_true] at h
  exact h.1.2
 have hdd:isDigB b=true→b.all digByte=true:=fun h=>by
  unfold isDigB at h
  simp only [Bool.and_eq_true] at h
  exact h.2
 have h5:=fun g1 g2 g3=>read_sem neg a b g1 g2 g3
 generalize readN neg a b=rd at h5 hr
 generalize isWholeB a=wb at h3 hwd hr
 generalize isDigB b=db at h4 hdd hr
 by_cases hgood:¬ (40 < s.length∨wb=false∨(pt=true∧(db=false∨9 < b.length)))
 ·rw [if_neg hgood] at hr
  have hw:wb=true:=by
   cases wb with
   |true=>rfl
   |false=>exact absurd (.inr (.inl rfl)) hgood
  have hb:b.all digByte=true:=by
   cases pt with
   |false=>rw [hnil rfl];rfl
   |true=>
    cases db with
    |true=>exact hdd rfl
    |false=>exact absurd (.inr (.inr ⟨rfl,.inl rfl⟩)) hgood
  have h6:=h5 (hwd hw) hb (by omega)
  subst hr
  clear h5
  refine si [2] Tryz.func56 ?_
  repeat'((conv=>whnf);first|(try(first|apply eN|apply eI|apply eC);conv=>whnf);apply sD;(focus(try intro hc;have hc0:=hc;(try simp only[SPLT]at hc);try refine and0 ?_);first|exact gx h1|exact gx h2|exact gx h3|exact gx h4|exact gx h6|(refine gx (cutPrefix_sem ?_ ?_)<;>exact pre)|(refine gx (cut_sem ?_ ?_)<;>exact pre)|(refine gx (isWhole_sem ?_ ?_)<;>exact pre)|(refine gx (isDigits_sem ?_ ?_)<;>exact pre)|(refine gx (read_sem ?_ ?_ ?_ ?_ ?_ ?_)<;>exact pre)|exact sideG)|apply rR|apply rE|apply rH| (apply cD<;>intro hb<;>(try simp only[SPLT]at hb)<;>try exact noB))
  all_goals try exact false
  ·exfalso
   apply hgood
   rcases hb with (h|h)|⟨g,h|h⟩
   ·exact .inl (by omega)
   ·exact .inr (.inl h)
   ·exact .inr (.inr ⟨g,.inl h⟩)
   ·exact .inr (.inr ⟨g,.inr (by omega)⟩)
  ·exact finR
 ·have hgood:=Classical.not_not.1 hgood
  rw [if_pos hgood] at hr
  subst hr
  clear h5
  refine si [2] Tryz.func56 ?_
  repeat'((conv=>whnf);first|(try(first|apply eN|apply eI|apply eC);conv=>whnf);apply sD;(focus(try intro hc;have hc0:=hc;(try simp only[SPLT]at hc);try refine and0 ?_);first|exact gx h1|exact gx h2|exact gx h3|exact gx h4|(refine gx (cutPrefix_sem ?_ ?_)<;>exact pre)|(refine gx (cut_sem ?_ ?_)<;>exact pre)|(refine gx (isWhole_sem ?_ ?_)<;>exact pre)|(refine gx (isDigits_sem ?_ ?_)<;>exact pre)|(refine gx (read_sem ?_ ?_ ?_ ?_ ?_ ?_)<;>exact pre)|exact sideG)|apply rR|apply rE|apply rH| (apply cD<;>intro hb<;>(try simp only[SPLT]at hb)<;>try exact noB))
  all_goals try exact false
  ·exact finR
  ·exfalso
   obtain ⟨⟨g1,g2⟩,g3⟩:=hb
   rcases hgood with h|h|⟨h,h'⟩
   ·omega
   ·rw [g2] at h;cases h
   ·rcases g3 with g3|⟨g3,g4⟩
    ·rw [g3] at h;cases h
    ·rcases h' with h' | h'
     ·rw [g3] at h';cases h'
     ·omega
theorem scaled_sem (u p k : Int) (hu : u.natAbs ≤ 1000000000000000) (hp : 0 ≤ k - p) (hk : k - p ≤ 9) (h0 : 0 ≤ p) (h9 : k ≤ 9) : Sem Tryz.prog 89 [.agg [.int .i64 u, .int .i64 p], .int .i64 k] (.agg (wC (u * 10 ^ (k - p).toNat))) := by
  have h1 := of_sem u (by omega) (by omega)
  have h2 := power_sem (k - p) hp (by omega)
  have h3 := times_sem u (10 ^ (k - p).toNat) (wok (by omega) (by have : (10 : Nat) ^ 45 = 1000000000000000 * 10 ^ 30 := by decide
                                                                  omega)) (wok (by omega) (by
    rw [Int.natAbs_pow]
    show 10 ^ (k - p).toNat ≤ 10 ^ 45
    exact Nat.pow_le_pow_right (by omega) (by omega)))
  generalize hq : k - p = q at *
  unfold wC at *
  generalize dg WB (u * 10 ^ q.toNat).natAbs = l3 at *
  generalize decide (u * 10 ^ q.toNat < 0) = s3 at *
  generalize dg WB ((10 : Int) ^ q.toNat).natAbs = l2 at *
  generalize decide ((10 : Int) ^ q.toNat < 0) = s2 at *
  generalize dg WB u.natAbs = l1 at *
  generalize decide (u < 0) = s1 at *
  have w1 : IntKind.i64.wrap (k - p) = q := by rw [hq]; exact IntWalk.i64_in _ (by omega)
  refine si [4] Tryz.func89 ?_
  repeat' (
    (conv => whnf)
    first
      |((try ((first | apply eN | apply eI | apply eC); (conv => whnf))); (apply sD); (focus (first | (exact w1) | exact gx h1 | exact gx h2 | exact gx h3 | (refine gx (of_sem ?_ ?_ ?_) <;> exact pre) | (refine gx (power_sem ?_ ?_ ?_) <;> exact pre) | (refine gx (times_sem ?_ ?_ ?_ ?_) <;> exact pre) | exact side)))
      |((first | apply dG | apply kB); kernel_rfl)
      |(first | apply rR | apply rE | apply rH)
      | ((apply cD) <;> intro hb <;> (try simp only [SPLT] at hb) <;> (try first | exact noB)))
  all_goals try exact false
  exact finR
theorem value_sem (u p:Int) (hu:u.natAbs≤1000000000000000) (h0:0≤p) (h9:p≤9):Sem Tryz.prog 58 [.agg [.int .i64 u,.int .i64 p]] (.agg (wC (u * 10 ^ (9 - p).toNat))):=by
 have h1:=scaled_sem u p 9 hu (by omega) (by omega) h0 (by omega)
 unfold wC at *
 refine si [2] Tryz.func58 ?_
 repeat'((conv=>whnf);first|(try(first|apply eN|apply eI|apply eC);conv=>whnf);apply sD;(focus first|exact gx h1|(refine gx (scaled_sem ?_ ?_ ?_ ?_ ?_ ?_ ?_ ?_)<;>exact pre)|exact side)|apply rR|apply rE|apply rH| (apply cD<;>intro hb<;>(try simp only[SPLT]at hb)<;>try exact noB))
 all_goals try exact false
 exact finR
theorem sgn_ge (z:Int):(0≤sgn z↔0≤z)∧(sgn z≤0↔z≤0):=by
 unfold sgn
 split
 ·omega
 ·split<;>omega
theorem isWithin_sem (s:Str) (lo hi:Int) (hs:s.length≤1000) (hlo:lo.natAbs≤1000000000000) (hhi:hi.natAbs≤1000000000000):Sem Tryz.prog 35 [.str s,.int .i64 lo,.int .i64 hi] (.bool (withinB s lo hi)):=by
 have h1:=readText_sem s hs
 have hpl:=decN_places s
 have hr:withinB s lo hi=(decide ((decN s).2.2=0) && decide (lo * 1000000000≤(decN s).1 * 10 ^ (9 - (decN s).2.1).toNat) && decide ((decN s).1 * 10 ^ (9 - (decN s).2.1).toNat≤hi * 1000000000)):=rfl
 generalize withinB s lo hi=r at hr ⊢
 generalize decN s=d at h1 hpl hr
 obtain ⟨u,p,e⟩:=d
 dsimp only at h1 hpl hr
 by_cases he:e=0
 ·obtain ⟨p1,p2,p3,p4⟩:=hpl he
  subst he
  have h2:=power_sem 9 (by omega) (by omega)
  rw [show (10:Int) ^ (9:Int).toNat=1000000000 from rfl] at h2
  have h3:=value_sem u p (by omega) p1 p2
  have hvb:(u * 10 ^ (9 - p).toNat).natAbs≤10 ^ 45:=by
   rw [Int.natAbs_mul,Int.natAbs_pow]
   have g1:10 ^ (9 - p).toNat≤10 ^ 9:=Nat.pow_le_pow_right (by omega) (by omega)
   have g2:u.natAbs * 10 ^ (9 - p).toNat≤1000000000000000 * 10 ^ 9:=Nat.mul_le_mul (by omega) g1
   have g3:1000000000000000 * 10 ^ 9≤10 ^ 45:=by decide
   exact Nat.le_trans g2 g3
  have b45:1000000000000000000000≤10 ^ 45:=by decide
  have h4:=of_sem lo (by omega) (by omega)
  have h5:=of_sem hi (by omega) (by omega)
  have h6:=times_sem lo 1000000000 (wok (by omega) (by omega)) (wok (by omega) (by decide))
  have h7:=times_sem hi 1000000000 (wok (by omega) (by omega)) (wok (by omega) (by decide))
  have h8:=compareW_sem (u * 10 ^ (9 - p).toNat) (lo * 1000000000) (wok (by omega) hvb) (wok (by omega) (by rw [Int.natAbs_mul];show _ * 1000000000≤_;omega))
  have h9:=compareW_sem (u * 10 ^ (9 - p).toNat) (hi * 1000000000) (wok (by omega) hvb) (wok (by omega) (by rw [Int.natAbs_mul];show _ * 1000000000≤_;omega))
  generalize hv:u * 10 ^ (9 - p).toNat=v at *
  generalize hl:lo * 1000000000=lv at *
  generalize hh:hi * 1000000000=hv' at *
  clear hv hl hh hvb hpl
  have q1:=(sgn_ge (v - lv)).1
  have q2:=(sgn_ge (v - hv')).2
  generalize sgn (v - lv)=c1 at h8 q1
  generalize sgn (v - hv')=c2 at h9 q2
  unfold wC at *
  generalize dg WB v.natAbs=a1 at *
  generalize decide (v < 0)=b1 at *
  generalize dg WB lv.natAbs=a2 at *
  generalize decide (lv < 0)=b2 at *
  generalize dg WB hv'.natAbs=a3 at *
  generalize decide (hv' < 0)=b3 at *
  generalize dg WB lo.natAbs=a4 at *
  generalize decide (lo < 0)=b4 at *
  generalize dg WB hi.natAbs=a5 at *
  generalize decide (hi < 0)=b5 at *
  generalize dg WB (1000000000:Int).natAbs=a6 at *
  generalize decide ((1000000000:Int) < 0)=b6 at *
  refine si [] Tryz.func35 ?_
  repeat'((conv=>whnf);first|(try(first|apply eN|apply eI|apply eC);conv=>whnf);apply sD;(focus(try intro hc;have hc0:=hc;(try simp only[SPLT]at hc);try refine and0 ?_);first|exact gx h1|exact gx h2|exact gx h3|exact gx h4|exact gx h5|exact gx h6|exact gx h7|exact gx h8|exact gx h9|(refine gx (readText_sem ?_ ?_)<;>exact pre)|(refine gx (power_sem ?_ ?_ ?_)<;>exact pre)|(refine gx (value_sem ?_ ?_ ?_ ?_ ?_)<;>exact pre)|(refine gx (of_sem ?_ ?_ ?_)<;>exact pre)|(refine gx (times_sem ?_ ?_ ?_ ?_)<;>exact pre)|(refine gx (compareW_sem ?_ ?_ ?_ ?_)<;>exact pre)|exact sideG)|(first|apply dG|apply kB);kernel_rfl|apply rR|apply rE|apply rH| (apply cD<;>intro hb<;>(try simp only[SPLT]at hb)<;>try exact noB))
  all_goals try exact false
  repeat' ((conv=>whnf);first|exact endR|with_reducible first|apply And.intro|apply oR|apply oN|apply dC)
  all_goals (conv=>whnf)
  refine rle_bool ?_
  rw [hr,Bool.eq_iff_iff]
  simp only [Bool.and_eq_true,decide_eq_true_eq]
  constructor
  ·rintro ⟨g1,g2⟩
   exact ⟨⟨trivial,by omega⟩,by omega⟩
  ·rintro ⟨⟨_,g1⟩,g2⟩
   exact ⟨by omega,by omega⟩
 ·rw [decide_eq_false he,Bool.false_and,Bool.false_and] at hr
  subst hr
  refine si [] Tryz.func35 ?_
  repeat'((conv=>whnf);first|(try(first|apply eN|apply eI|apply eC);conv=>whnf);apply sD;(focus(try intro hc;have hc0:=hc;(try simp only[SPLT]at hc);try refine and0 ?_);first|exact gx h1|(refine gx (readText_sem ?_ ?_)<;>exact pre)|(refine gx (power_sem ?_ ?_ ?_)<;>exact pre)|(refine gx (value_sem ?_ ?_ ?_ ?_ ?_)<;>exact pre)|(refine gx (of_sem ?_ ?_ ?_)<;>exact pre)|(refine gx (times_sem ?_ ?_ ?_ ?_)<;>exact pre)|(refine gx (compareW_sem ?_ ?_ ?_ ?_)<;>exact pre)|exact sideG)|(first|apply dG|apply kB);kernel_rfl|apply rR|apply rE|apply rH| (apply cD<;>intro hb<;>(try simp only[SPLT]at hb)<;>try exact noB))
  all_goals try exact false
  exact finR
set_option maxHeartbeats 4000000
inductive Cond.HOk:Cond→Prop where
 |mk {k:Int} {ks:List Cond} {p:Str} {vs:List Str} {lo hi:Int} (h3:k=3∨k=7∨k=8→∃ x,ks = [x]) (hp:p.length≤1000) (hlo:lo.natAbs≤1000000000000) (hhi:hi.natAbs≤1000000000000) (hk:∀ x ∈ ks,x.HOk):(Cond.mk k ks p vs lo hi).HOk
structure TreeOk (t:List Br):Prop where
 nar:∀ b ∈ t,b.Nar
 few:Br.sizes t≤100000
theorem tree_ok {t:List Br} (h:treeErr t=0):TreeOk t:=⟨tree_nar h,by have:=tree_sizes h;omega⟩
theorem lszs_mem1:∀ {ls:List (List Br)} {l:List Br},l ∈ ls→1+Br.sizes l≤lszs ls
 |m::ls,l,h=>by
  rw [lszs]
  rcases List.mem_cons.1 h with rfl|h
  ·omega
  ·have:=lszs_mem1 h;omega
theorem TreeOk.kids {t:List Br} (h:TreeOk t) {p:Str} {x:List Br} (hx:x ∈ kidsP p t):TreeOk x:=by
 unfold kidsP at hx
 split at hx
 ·obtain rfl:=List.mem_singleton.1 hx
  exact h
 ·have h1:=lszs_mem1 hx
  have h2:=inside_sz (partsAt 47 p) t
  have h3:=h.few
  exact ⟨inside_nar _ t h.nar x hx,by omega⟩
theorem path_len {p:Str} (h:pathErr p=0):p.length≤200:=by
 unfold pathErr at h
 split at h
 ·cases h
 ·omega
theorem groups_len {p:Str} (h:groupsErr p=0):p.length≤200:=by
 unfold groupsErr at h
 split at h
 ·cases h
 ·omega
theorem ends_bd {k lo hi:Int} (h:endsErr k lo hi=0):lo.natAbs≤1000000000000∧hi.natAbs≤1000000000000:=by
 unfold endsErr at h
 repeat' split at h
 all_goals first|(cases h;done)|(constructor<;>omega)
theorem own_hok {k:Int} {nk:Nat} {p:Str} {vs:List Str} {lo hi:Int} (h:ownErr k nk p vs lo hi=0):p.length≤1000∧lo.natAbs≤1000000000000∧hi.natAbs≤1000000000000:=by
 unfold ownErr at h
 split at h
 ·cases h
 ·rename_i hr
  split at h
  ·cases h
  ·rename_i hf
   have hf:formB k nk p vs.length lo hi=false:=by simpa using hf
   unfold formB usesOfB overB at hf
   simp only [Bool.or_eq_false_iff] at hf
   obtain ⟨⟨⟨⟨_,h2⟩,_⟩,h4⟩,_⟩:=hf
   have hz:k ≠ 6→k ≠ 9→lo=0∧hi=0:=fun a b=>by
    simp only [Bool.and_eq_false_iff,Bool.not_eq_false',Bool.or_eq_true,beq_iff_eq,Bool.or_eq_false_iff] at h4
    rcases h4 with h4|h4
    ·omega
    ·exact h4
   have hp0:k < 4→p = []:=fun a=>by
    simp only [Bool.and_eq_false_iff,Bool.not_eq_false',decide_eq_true_eq,beq_iff_eq] at h2
    rcases h2 with h2|h2
    ·omega
    ·exact h2
   split at h
   ·rename_i ho
    have ho:k=7∨k=8:=by unfold overB at ho;simpa using ho
    obtain ⟨rfl,rfl⟩:=hz (by omega) (by omega)
    have:groupsErr p=0:=by
     split at h
     ·exact absurd h (by assumption)
     ·rename_i g;simpa using g
    have:=groups_len this
    exact ⟨by omega,by decide,by decide⟩
   ·split at h
    ·rename_i hh;exact absurd h hh.2
    ·rename_i hh
     have hpl:p.length≤1000:=by
      by_cases h4:4≤k
      ·have:pathErr p=0:=Classical.byContradiction fun e=>hh ⟨h4,e⟩
       have:=path_len this
       omega
      ·rw [hp0 (by omega)];simp
     by_cases h69:k=6∨k=9
     ·rw [if_neg (by omega),if_pos h69] at h
      obtain ⟨e1,e2⟩:=ends_bd h
      exact ⟨hpl,e1,e2⟩
     ·obtain ⟨rfl,rfl⟩:=hz (by omega) (by omega)
      exact ⟨hpl,by decide,by decide⟩
theorem chks_hok {d:Int}:∀ (l:List Cond),(∀ c ∈ l,∀ n,(c.chk d n).2=0→c.HOk)→∀ n,(Cond.chks l d n).2=0→∀ c ∈ l,c.HOk
 |[],_,_,_=>by simp
 |c::l,hc,n,h=>by
  have hat:=chks_at (l:=c::l) (i:=0) (c:=c) rfl d n
  rw [List.drop_zero] at hat
  rw [hat] at h
  by_cases he:(c.chk d n).2=0
  ·rw [if_neg (by simp [he])] at h
   intro x hx
   rcases List.mem_cons.1 hx with rfl|hx
   ·exact hc _ (by simp) n he
   ·exact chks_hok l (fun y hy=>hc y (by simp [hy])) _ h x hx
  ·rw [if_pos he] at h
   exact absurd h he
theorem chk_hok (c:Cond):∀ d n:Int,(c.chk d n).2=0→c.HOk:=by
 induction c using Cond.ind with
 |h k ks p vs lo hi ih=>
  intro d n h
  rw [chk_mk] at h
  split at h
  ·cases h
  ·split at h
   ·rename_i he
    exact absurd h he
   ·rename_i he
    obtain ⟨o1,_,_⟩:=own_fm (by simpa using he)
    obtain ⟨q1,q2,q3⟩:=own_hok (by simpa using he)
    exact .mk o1 q1 q2 q3 (chks_hok ks (fun c hc m hh=>ih c hc (d+1) m hh) (n+1) h)
theorem err_hok {c:Cond} (h:c.err=0):c.HOk:=chk_hok c 0 0 h
theorem indexS_sem (l:List Str) (s:Str):Sem Tryz.prog 55 [.sl 0 1 (l.map fun s => [.str s]),.str s] (.int .i64 (idxG (fun x=>s == x) l 0)):=by
 refine sem_len 0 rfl rfl fun hl => ?_
 rw [List.length_map] at hl
 have hll:(l.map fun s => [D.str s]).length=l.length:=List.length_map _
 refine si [1000016,1000021,1000047] Tryz.func55 ?_
 repeat'((conv=>whnf);first|(try(first|apply eN|apply eI|apply eC);conv=>whnf);apply sD;(focus first|exact side)|apply rR|apply rE|apply rH| (apply cD<;>intro hb<;>(try simp only[SPLT]at hb)<;>try exact noB))
 all_goals try exact false
 refine loop_go (M:=fun t=>mem t [1000016,1000021,1000047]) hT hM (fun k:Nat => [(8,.int .i64 k)]) (fun k=>k≤l.length∧idxG (fun x=>s == x) (l.drop k) k=idxG (fun x=>s == x) l 0) (fun k=>l.length - k) (0) ?_ ?_ ?_
 ·exact finF
 ·exact ⟨Nat.zero_le _,rfl⟩
 ·rintro k ⟨hk,hi⟩
  rcases hx:l[k]? with _|a
  ·have hk':k=l.length:=by have:=List.getElem?_eq_none_iff.1 hx;omega
   subst hk'
   rw [List.drop_length] at hi
   repeat'((conv=>whnf);first|(try(first|apply eN|apply eI|apply eC);conv=>whnf);apply sD;(focus first|exact side)|apply rR|apply rE|apply rH| (apply cD<;>intro hb<;>(try simp only[SPLT]at hb)<;>try exact noB))
   all_goals try exact false
   repeat' ((conv=>whnf);first|exact endR|with_reducible first|apply And.intro|apply oR|apply oN|apply dC)
   all_goals (conv=>whnf)
   exact rle_int hi
  ·have hlt:=(gLt hx)
   rw [idxG_at hx] at hi
   repeat'((conv=>whnf);first|(try(first|apply eN|apply eI|apply eC);conv=>whnf);apply sD;(focus first|(exact idx_eq (f:=fun s => [D.str s]) hx rfl)|exact side)|apply rR|apply rE|apply rH| (apply cD<;>intro hb<;>(try simp only[SPLT]at hb)<;>try exact noB))
   all_goals try exact false
   ·repeat' ((conv=>whnf);first|exact endR|with_reducible first|apply And.intro|apply oR|apply oN|apply dC)
    all_goals (conv=>whnf)
    exact rle_int (by rw [← hi,if_pos (by simpa using hb)])
   ·refine ⟨k+1,⟨by omega,by rw [← hi,if_neg (by simpa using hb)]⟩,by omega,?_⟩
    exact finF
theorem containsS_sem (l:List Str) (s:Str):Sem Tryz.prog 32 [.sl 0 1 (l.map fun s => [.str s]),.str s] (.bool (l.contains s)):=by
 have h:=indexS_sem l s
 have e:decide (0≤idxG (fun x=>s == x) l 0)=l.contains s:=by
  rw [idxG_any _ l 0 (by omega),List.contains_eq_any_beq]
 rw [← e]
 generalize idxG (fun x=>s == x) l 0=i at h ⊢
 refine si [1000016,1000021,1000047] Tryz.func32 ?_
 repeat'((conv=>whnf);first|(try(first|apply eN|apply eC);conv=>whnf);apply sD;(focus first|exact gx h|(refine gx (indexS_sem ?_ ?_)<;>exact pre)|exact side)|apply rR|apply rE|apply rH| (apply cD<;>intro hb<;>(try simp only[SPLT]at hb)<;>try exact noB))
 all_goals try exact false
 exact finR
theorem ho5_sem (s:Str) (k:Int) (rows:List (List D)) (p:Str) (vs:List Str) (lo hi:Int):Sem Tryz.prog 31 [.str s,.ptr [.int .i64 k,.sl 0 6 rows,.str p,.sl 0 1 (vs.map fun s => [.str s]),.int .i64 lo,.int .i64 hi]] (.bool (vs.contains s)):=by
 have h:=containsS_sem vs s
 generalize vs.contains s=r at h ⊢
 refine si [1000016,1000021,1000047] Tryz.func31 ?_
 repeat'((conv=>whnf);first|(try(first|apply eN|apply eI|apply eC);conv=>whnf);apply sD;(focus first|exact gx h|(refine gx (containsS_sem ?_ ?_)<;>exact pre)|exact side)|apply rR|apply rE|apply rH| (apply cD<;>intro hb<;>(try simp only[SPLT]at hb)<;>try exact noB))
 all_goals try exact false
 exact finR
theorem ho6_sem (s:Str) (hs:s.length≤1000) (k:Int) (rows:List (List D)) (p:Str) (vs:List (List D)) (lo hi:Int) (hlo:lo.natAbs≤1000000000000) (hhi:hi.natAbs≤1000000000000):Sem Tryz.prog 34 [.str s,.ptr [.int .i64 k,.sl 0 6 rows,.str p,.sl 0 1 vs,.int .i64 lo,.int .i64 hi]] (.bool (withinB s lo hi)):=by
 have h:=isWithin_sem s lo hi hs hlo hhi
 generalize withinB s lo hi=r at h ⊢
 refine si [1000016,1000021,1000047] Tryz.func34 ?_
 repeat'((conv=>whnf);first|(try(first|apply eN|apply eI|apply eC);conv=>whnf);apply sD;(focus first|exact gx h|(refine gx (isWithin_sem ?_ ?_ ?_ ?_ ?_ ?_)<;>exact pre)|exact side)|apply rR|apply rE|apply rH| (apply cD<;>intro hb<;>(try simp only[SPLT]at hb)<;>try exact noB))
 all_goals try exact false
 exact finR
theorem way_bd (p:Str) (hp:p.length≤1000):(wayN p).1.1.length≤2000∧0≤(wayN p).1.2.2.1∧(wayN p).1.2.2.1≤1000∧0≤(wayN p).1.2.2.2∧(wayN p).1.2.2.2≤1000:=by
 have hl:=parts_len (c:=47) p
 have hd:(partsAt 47 p).dropLast.length≤2000:=by rw [List.length_dropLast];omega
 have nb:∀ {b:Str} {m:Int},numB b m=true→m≤1000→0≤(numN b).1∧(numN b).1≤1000:=fun {b m} h hm=>by
  unfold numB outR at h
  simp only [Bool.and_eq_true,Bool.not_eq_true',Bool.or_eq_false_iff,decide_eq_false_iff_not] at h
  omega
 unfold wayN
 split
 ·generalize (partsAt 47 p).dropLast=ns at hd
  generalize partsAt 46 ((partsAt 47 p).getLast?.getD [])=l
  unfold tailN
  split
  ·split<;>exact ⟨hd,by simp,by simp,by simp,by simp⟩
  ·split
   ·exact ⟨hd,by simp,by simp,by simp,by simp⟩
   ·split
    ·rename_i h
     obtain ⟨h1,h2⟩:=nb h (by omega)
     exact ⟨hd,h1,h2,by simp,by simp⟩
    ·exact ⟨hd,by simp,by simp,by simp,by simp⟩
  ·split
   ·exact ⟨hd,by simp,by simp,by simp,by simp⟩
   ·split
    ·exact ⟨hd,by simp,by simp,by simp,by simp⟩
    ·rename_i h0
     obtain ⟨h1,h2⟩:=nb (by simpa using h0) (by omega)
     split
     ·rename_i h
      obtain ⟨h3,h4⟩:=nb h (by omega)
      exact ⟨hd,h1,h2,h3,h4⟩
     ·exact ⟨hd,h1,h2,by simp,by simp⟩
  ·exact ⟨hd,by simp,by simp,by simp,by simp⟩
 ·exact ⟨by simp [zW],by simp [zW],by simp [zW],by simp [zW],by simp [zW]⟩
theorem ho12_sem (x:Cond) (t:List Br) (h:Sem Tryz.prog 13 [.agg x.row,.sl 0 4 (t.map Br.row)] (.bool (x.holds t))):Sem Tryz.prog 22 [.agg x.row,.ptr [.sl 0 4 (t.map Br.row)]] (.bool (x.holds t))∧Sem Tryz.prog 23 [.agg x.row,.ptr [.sl 0 4 (t.map Br.row)]] (.bool (!x.holds t)):=by
 obtain ⟨k,ks,p,vs,lo,hi⟩:=x
 rw [Cond.row_mk] at h ⊢
 generalize (Cond.mk k ks p vs lo hi).holds t=r at h ⊢
 constructor
 ·refine si [1000016,1000021,1000047] Tryz.func22 ?_
  repeat'((conv=>whnf);first|(try(first|apply eN|apply eI|apply eC);conv=>whnf);apply sD;(focus first|exact gx h|(refine gx (ho12_sem ?_ ?_)<;>exact pre)|(refine gx (ho34_sem ?_ ?_ ?_ ?_ ?_ ?_ ?_)<;>exact pre)|exact side)|apply rR|apply rE|apply rH| (apply cD<;>intro hb<;>(try simp only[SPLT]at hb)<;>try exact noB))
  all_goals try exact false
  exact finR
 ·refine si [1000016,1000021,1000047] Tryz.func23 ?_
  repeat'((conv=>whnf);first|(try(first|apply eN|apply eI|apply eC);conv=>whnf);apply sD;(focus first|exact gx h|(refine gx (ho12_sem ?_ ?_)<;>exact pre)|(refine gx (ho34_sem ?_ ?_ ?_ ?_ ?_ ?_ ?_)<;>exact pre)|exact side)|apply rR|apply rE|apply rH| (apply cD<;>intro hb<;>(try simp only[SPLT]at hb)<;>try exact noB))
  all_goals try exact false
  exact finR
theorem ho34_sem (x:Cond) (l:List Br) (k:Int) (p:Str) (vs:List (List D)) (lo hi:Int) (h:Sem Tryz.prog 13 [.agg x.row,.sl 0 4 (l.map Br.row)] (.bool (x.holds l))):Sem Tryz.prog 26 [.sl 0 4 (l.map Br.row),.ptr [.int .i64 k,.sl 0 6 [x.row],.str p,.sl 0 1 vs,.int .i64 lo,.int .i64 hi]] (.bool (!x.holds l))∧Sem Tryz.prog 27 [.sl 0 4 (l.map Br.row),.ptr [.int .i64 k,.sl 0 6 [x.row],.str p,.sl 0 1 vs,.int .i64 lo,.int .i64 hi]] (.bool (x.holds l)):=by
 obtain ⟨k1,ks1,p1,vs1,lo1,hi1⟩:=x
 rw [Cond.row_mk] at h ⊢
 generalize (Cond.mk k1 ks1 p1 vs1 lo1 hi1).holds l=r at h ⊢
 constructor
 ·refine si [1000016,1000021,1000047] Tryz.func26 ?_
  repeat'((conv=>whnf);first|(try(first|apply eN|apply eI|apply eC);conv=>whnf);apply sD;(focus first|(exact ⟨by decide,rfl⟩)|exact gx h|(refine gx (ho12_sem ?_ ?_)<;>exact pre)|(refine gx (ho34_sem ?_ ?_ ?_ ?_ ?_ ?_ ?_)<;>exact pre)|exact side)|apply rR|apply rE|apply rH| (apply cD<;>intro hb<;>(try simp only[SPLT]at hb)<;>try exact noB))
  all_goals try exact false
  exact finR
 ·refine si [1000016,1000021,1000047] Tryz.func27 ?_
  repeat'((conv=>whnf);first|(try(first|apply eN|apply eI|apply eC);conv=>whnf);apply sD;(focus first|(exact ⟨by decide,rfl⟩)|exact gx h|(refine gx (ho12_sem ?_ ?_)<;>exact pre)|(refine gx (ho34_sem ?_ ?_ ?_ ?_ ?_ ?_ ?_)<;>exact pre)|exact side)|apply rR|apply rE|apply rH| (apply cD<;>intro hb<;>(try simp only[SPLT]at hb)<;>try exact noB))
  all_goals try exact false
  exact finR
theorem all_any_not {α:Type} (q:α→Bool) (l:List α):(!(l.any fun a => !q a))=l.all q:=by
 induction l with
 |nil=>rfl
 |cons a l ih=>rw [List.any_cons,List.all_cons,← ih];cases q a<;>simp
theorem holdsOf_sem (c:Cond):c.HOk→∀ t,TreeOk t→Sem Tryz.prog 13 [.agg c.row,.sl 0 4 (t.map Br.row)] (.bool (c.holds t)):=by
 induction c using Cond.ind with
 |h k ks p vs lo hi ih=>
  rintro ⟨h3,hp,hlo,hhi,hk⟩ t ht
  have ih':∀ x ∈ ks,∀ t,TreeOk t→Sem Tryz.prog 13 [.agg x.row,.sl 0 4 (t.map Br.row)] (.bool (x.holds t)):=fun x hx=>ih x hx (hk x hx)
  have c1:=containsFuncC_sem ks 22 [.sl 0 4 (t.map Br.row)] (fun x=>x.holds t) fun x hx=>(ho12_sem x t (ih' x hx t ht)).1
  have c2:=containsFuncC_sem ks 23 [.sl 0 4 (t.map Br.row)] (fun x => !x.holds t) fun x hx=>(ho12_sem x t (ih' x hx t ht)).2
  have hkd:=Kids_sem t p hp ht.few
  have e1:=all_any_not (fun x:Cond=>x.holds t) ks
  rw [holds_mk,holdsA_all,holdsO_any,← e1,Cond.row_mk]
  generalize (ks.any fun x=>x.holds t)=r1 at c1 ⊢
  generalize (ks.any fun x => !x.holds t)=r2 at c2 ⊢
  by_cases k1:k=1
  ·subst k1
   rw [if_pos rfl]
   refine si [1000016,1000021,1000047] Tryz.func13 ?_
   repeat'((conv=>whnf);first|(try(first|apply eN|apply eI|apply eC);conv=>whnf);apply sD;(focus first|exact gx c2|(refine gx (way_sem ?_ ?_)<;>exact pre)|(refine gx (way_none ?_ ?_ ?_)<;>exact pre)|(refine gx (way_some ?_ ?_ ?_ ?_ ?_ ?_)<;>exact pre)|(refine gx (way_bad ?_ ?_ ?_ ?_ ?_ ?_)<;>exact pre)|(refine gx (containsFuncS_sem ?_ ?_ ?_ ?_ ?_)<;>exact pre)|(refine gx (outR_sem ?_ ?_)<;>exact pre)|(refine gx (containsFuncC_sem ?_ ?_ ?_ ?_ ?_)<;>exact pre)|(refine gx (Kids_sem ?_ ?_ ?_ ?_)<;>exact pre)|(refine gx (containsFuncL_sem ?_ ?_ ?_ ?_ ?_)<;>exact pre)|(refine gx (bgm_way )<;>exact pre)|(refine gx (texts_sem ?_ ?_ ?_ ?_ ?_ ?_ ?_ ?_ ?_ ?_ ?_ ?_)<;>exact pre)|(refine gx (containsFuncT_sem ?_ ?_ ?_ ?_ ?_)<;>exact pre)|(refine gx (outsideK_sem ?_ ?_ ?_)<;>exact pre)|exact side)|apply rR|apply rE|apply rH| (apply cD<;>intro hb<;>(try simp only[SPLT]at hb)<;>try exact noB))
   all_goals try exact false
   exact finR
  ·rw [if_neg k1]
   by_cases k2:k=2
   ·subst k2
    rw [if_pos rfl]
    refine si [1000016,1000021,1000047] Tryz.func13 ?_
    repeat'((conv=>whnf);first|(try(first|apply eN|apply eI|apply eC);conv=>whnf);apply sD;(focus first|exact gx c1|(refine gx (way_sem ?_ ?_)<;>exact pre)|(refine gx (way_none ?_ ?_ ?_)<;>exact pre)|(refine gx (way_some ?_ ?_ ?_ ?_ ?_ ?_)<;>exact pre)|(refine gx (way_bad ?_ ?_ ?_ ?_ ?_ ?_)<;>exact pre)|(refine gx (containsFuncS_sem ?_ ?_ ?_ ?_ ?_)<;>exact pre)|(refine gx (outR_sem ?_ ?_)<;>exact pre)|(refine gx (containsFuncC_sem ?_ ?_ ?_ ?_ ?_)<;>exact pre)|(refine gx (Kids_sem ?_ ?_ ?_ ?_)<;>exact pre)|(refine gx (containsFuncL_sem ?_ ?_ ?_ ?_ ?_)<;>exact pre)|(refine gx (bgm_way )<;>exact pre)|(refine gx (texts_sem ?_ ?_ ?_ ?_ ?_ ?_ ?_ ?_ ?_ ?_ ?_ ?_)<;>exact pre)|(refine gx (containsFuncT_sem ?_ ?_ ?_ ?_ ?_)<;>exact pre)|(refine gx (outsideK_sem ?_ ?_ ?_)<;>exact pre)|exact side)|apply rR|apply rE|apply rH| (apply cD<;>intro hb<;>(try simp only[SPLT]at hb)<;>try exact noB))
    all_goals try exact false
    exact finR
   ·rw [if_neg k2]
    by_cases k3:k=3
    ·subst k3
     obtain ⟨x,rfl⟩:=h3 (.inl rfl)
     rw [if_pos rfl,holdsH_at rfl]
     have h1:=(ho12_sem x t (ih' x (by simp) t ht)).1
     generalize x.holds t=r at h1 ⊢
     obtain ⟨kx,ksx,px,vsx,lox,hix⟩:=x
     rw [Cond.row_mk] at h1
     refine si [1000016,1000021,1000047] Tryz.func13 ?_
     repeat'((conv=>whnf);first|(try(first|apply eN|apply eI|apply eC);conv=>whnf);apply sD;(focus first|(exact idx_row (l := [Cond.mk kx ksx px vsx lox hix]) (j:=0) rfl rfl)|exact gx h1|(refine gx (way_sem ?_ ?_)<;>exact pre)|(refine gx (way_none ?_ ?_ ?_)<;>exact pre)|(refine gx (way_some ?_ ?_ ?_ ?_ ?_ ?_)<;>exact pre)|(refine gx (way_bad ?_ ?_ ?_ ?_ ?_ ?_)<;>exact pre)|(refine gx (containsFuncS_sem ?_ ?_ ?_ ?_ ?_)<;>exact pre)|(refine gx (outR_sem ?_ ?_)<;>exact pre)|(refine gx (containsFuncC_sem ?_ ?_ ?_ ?_ ?_)<;>exact pre)|(refine gx (Kids_sem ?_ ?_ ?_ ?_)<;>exact pre)|(refine gx (containsFuncL_sem ?_ ?_ ?_ ?_ ?_)<;>exact pre)|(refine gx (bgm_way )<;>exact pre)|(refine gx (texts_sem ?_ ?_ ?_ ?_ ?_ ?_ ?_ ?_ ?_ ?_ ?_ ?_)<;>exact pre)|(refine gx (containsFuncT_sem ?_ ?_ ?_ ?_ ?_)<;>exact pre)|(refine gx (outsideK_sem ?_ ?_ ?_)<;>exact pre)|exact side)|apply rR|apply rE|apply rH| (apply cD<;>intro hb<;>(try simp only[SPLT]at hb)<;>try exact noB))
     all_goals try exact false
     exact finR
    ·rw [if_neg k3]
     by_cases k78:k=7∨k=8
     ·obtain ⟨x,rfl⟩:=h3 (by omega)
      have c3:=containsFuncL_sem (kidsP p t) 26 [.int .i64 k,.sl 0 6 [x.row],.str p,.sl 0 1 (vs.map fun s => [.str s]),.int .i64 lo,.int .i64 hi] (fun l => !x.holds l) fun l hl=>(ho34_sem x l k p _ lo hi (ih' x (by simp) l (ht.kids hl))).1
      have c4:=containsFuncL_sem (kidsP p t) 27 [.int .i64 k,.sl 0 6 [x.row],.str p,.sl 0 1 (vs.map fun s => [.str s]),.int .i64 lo,.int .i64 hi] (fun l=>x.holds l) fun l hl=>(ho34_sem x l k p _ lo hi (ih' x (by simp) l (ht.kids hl))).2
      have eH:(fun l=>Cond.holdsH [x] l)=fun l=>x.holds l:=funext fun l=>holdsH_at rfl l
      have e3:=all_any_not (fun l:List Br=>x.holds l) (kidsP p t)
      rw [eH,← e3]
      generalize ((kidsP p t).any fun l => !x.holds l)=r3 at c3 ⊢
      generalize ((kidsP p t).any fun l=>x.holds l)=r4 at c4 ⊢
      generalize (kidsP p t).map klR=kr at hkd c3 c4
      rcases k78 with rfl|rfl
      ·rw [if_pos rfl]
       refine si [1000016,1000021,1000047] Tryz.func13 ?_
       repeat'((conv=>whnf);first|(try(first|apply eN|apply eI|apply eC);conv=>whnf);apply sD;(focus first|exact gx hkd|exact gx c3|(refine gx (way_sem ?_ ?_)<;>exact pre)|(refine gx (way_none ?_ ?_ ?_)<;>exact pre)|(refine gx (way_some ?_ ?_ ?_ ?_ ?_ ?_)<;>exact pre)|(refine gx (way_bad ?_ ?_ ?_ ?_ ?_ ?_)<;>exact pre)|(refine gx (containsFuncS_sem ?_ ?_ ?_ ?_ ?_)<;>exact pre)|(refine gx (outR_sem ?_ ?_)<;>exact pre)|(refine gx (containsFuncC_sem ?_ ?_ ?_ ?_ ?_)<;>exact pre)|(refine gx (Kids_sem ?_ ?_ ?_ ?_)<;>exact pre)|(refine gx (containsFuncL_sem ?_ ?_ ?_ ?_ ?_)<;>exact pre)|(refine gx (bgm_way )<;>exact pre)|(refine gx (texts_sem ?_ ?_ ?_ ?_ ?_ ?_ ?_ ?_ ?_ ?_ ?_ ?_)<;>exact pre)|(refine gx (containsFuncT_sem ?_ ?_ ?_ ?_ ?_)<;>exact pre)|(refine gx (outsideK_sem ?_ ?_ ?_)<;>exact pre)|exact side)|apply rR|apply rE|apply rH| (apply cD<;>intro hb<;>(try simp only[SPLT]at hb)<;>try exact noB))
       all_goals try exact false
       exact finR
      ·rw [if_neg (by decide),if_pos rfl]
       refine si [1000016,1000021,1000047] Tryz.func13 ?_
       repeat'((conv=>whnf);first|(try(first|apply eN|apply eI|apply eC);conv=>whnf);apply sD;(focus first|exact gx hkd|exact gx c4|(refine gx (way_sem ?_ ?_)<;>exact pre)|(refine gx (way_none ?_ ?_ ?_)<;>exact pre)|(refine gx (way_some ?_ ?_ ?_ ?_ ?_ ?_)<;>exact pre)|(refine gx (way_bad ?_ ?_ ?_ ?_ ?_ ?_)<;>exact pre)|(refine gx (containsFuncS_sem ?_ ?_ ?_ ?_ ?_)<;>exact pre)|(refine gx (outR_sem ?_ ?_)<;>exact pre)|(refine gx (containsFuncC_sem ?_ ?_ ?_ ?_ ?_)<;>exact pre)|(refine gx (Kids_sem ?_ ?_ ?_ ?_)<;>exact pre)|(refine gx (containsFuncL_sem ?_ ?_ ?_ ?_ ?_)<;>exact pre)|(refine gx (bgm_way )<;>exact pre)|(refine gx (texts_sem ?_ ?_ ?_ ?_ ?_ ?_ ?_ ?_ ?_ ?_ ?_ ?_)<;>exact pre)|(refine gx (containsFuncT_sem ?_ ?_ ?_ ?_ ?_)<;>exact pre)|(refine gx (outsideK_sem ?_ ?_ ?_)<;>exact pre)|exact side)|apply rR|apply rE|apply rH| (apply cD<;>intro hb<;>(try simp only[SPLT]at hb)<;>try exact noB))
       all_goals try exact false
       exact finR
     ·rw [if_neg (by omega),if_neg (by omega)]
      obtain ⟨w1,w2,w3,w4,w5⟩:=way_bd p hp
      have hw:=way_sem p hp
      have htx:=texts_sem t (wayN p).1.1 (wayN p).1.2.1 (wayN p).1.2.2.1 (wayN p).1.2.2.2 w1 ht.few ht.nar w2 w3 w4 w5
      obtain ⟨f1,f2⟩:=findTexts_ok (ns:=(wayN p).1.1) (tag:=(wayN p).1.2.1) (el:=(wayN p).1.2.2.1) (pt:=(wayN p).1.2.2.2) ht.nar ht.few
      have eT:textsP p t=findTexts (wayN p).1.1 (wayN p).1.2.1 (wayN p).1.2.2.1 (wayN p).1.2.2.2 t:=rfl
      rw [eT]
      generalize findTexts (wayN p).1.1 (wayN p).1.2.1 (wayN p).1.2.2.1 (wayN p).1.2.2.2 t=tx at htx f1 f2 ⊢
      have c5:=containsFuncT_sem tx 31 [.int .i64 k,.sl 0 6 (ks.map Cond.row),.str p,.sl 0 1 (vs.map fun s => [.str s]),.int .i64 lo,.int .i64 hi] (fun s=>vs.contains s) fun s _=>ho5_sem s k _ p vs lo hi
      have c6:=containsFuncT_sem tx 34 [.int .i64 k,.sl 0 6 (ks.map Cond.row),.str p,.sl 0 1 (vs.map fun s => [.str s]),.int .i64 lo,.int .i64 hi] (fun s=>withinB s lo hi) fun s hs=>ho6_sem s (f2 s hs) k _ p _ lo hi hlo hhi
      have hout:=outsideK_sem (tx.length:Int) lo hi
      have hll:(tx.map fun s => [D.str s]).length=tx.length:=List.length_map _
      generalize hwn:wayN p=wn at hw htx
      obtain ⟨⟨wa,wb,wc,wd⟩,we⟩:=wn
      unfold leafL
      generalize (tx.any fun s=>vs.contains s)=r5 at c5 ⊢
      generalize (tx.any fun s=>withinB s lo hi)=r6 at c6 ⊢
      unfold Wy.row at hw
      dsimp only at hw htx
      rw [← hll]
      rw [← hll] at hout
      generalize (tx.map fun s => [D.str s])=txr at htx c5 c6 hout ⊢
      refine si [1000016,1000021,1000047] Tryz.func13 ?_
      repeat'((conv=>whnf);first|(try(first|apply eN|apply eI|apply eC);conv=>whnf);apply sD;(focus first|exact gx hw|exact gx htx|exact gx c5|exact gx c6|exact gx hout|(refine gx (way_sem ?_ ?_)<;>exact pre)|(refine gx (way_none ?_ ?_ ?_)<;>exact pre)|(refine gx (way_some ?_ ?_ ?_ ?_ ?_ ?_)<;>exact pre)|(refine gx (way_bad ?_ ?_ ?_ ?_ ?_ ?_)<;>exact pre)|(refine gx (containsFuncS_sem ?_ ?_ ?_ ?_ ?_)<;>exact pre)|(refine gx (outR_sem ?_ ?_)<;>exact pre)|(refine gx (containsFuncC_sem ?_ ?_ ?_ ?_ ?_)<;>exact pre)|(refine gx (Kids_sem ?_ ?_ ?_ ?_)<;>exact pre)|(refine gx (containsFuncL_sem ?_ ?_ ?_ ?_ ?_)<;>exact pre)|(refine gx (bgm_way )<;>exact pre)|(refine gx (texts_sem ?_ ?_ ?_ ?_ ?_ ?_ ?_ ?_ ?_ ?_ ?_ ?_)<;>exact pre)|(refine gx (containsFuncT_sem ?_ ?_ ?_ ?_ ?_)<;>exact pre)|(refine gx (outsideK_sem ?_ ?_ ?_)<;>exact pre)|exact side)|apply rR|apply rE|apply rH| (apply cD<;>intro hb<;>(try simp only[SPLT]at hb)<;>try exact noB))
      all_goals try exact false
      ·repeat' ((conv=>whnf);first|exact endR|with_reducible first|apply And.intro|apply oR|apply oN|apply dC)
       all_goals (conv=>whnf)
       exact rle_bool (by rw [if_pos hb])
      ·repeat' ((conv=>whnf);first|exact endR|with_reducible first|apply And.intro|apply oR|apply oN|apply dC)
       all_goals (conv=>whnf)
       exact rle_bool (by rw [if_neg (by omega),if_neg (by omega),if_pos hb])
      ·repeat' ((conv=>whnf);first|exact endR|with_reducible first|apply And.intro|apply oR|apply oN|apply dC)
       all_goals (conv=>whnf)
       exact rle_bool (by rw [if_neg (by omega),if_pos hb])
      ·repeat' ((conv=>whnf);first|exact endR|with_reducible first|apply And.intro|apply oR|apply oN|apply dC)
       all_goals (conv=>whnf)
       exact rle_bool (by rw [if_neg (by omega),if_neg (by omega),if_neg (by omega)])
def holdsN (c:Cond) (t:List Br):Bool × Int:=if c.err ≠ 0 then (false,c.err) else if treeErr t ≠ 0 then (false,treeErr t) else (c.holds t,0)
theorem Holds_sem (c:Cond) (t:List Br) (hl:t.length≤9223372036854775807) (ht:∀ b ∈ t,b.Txt):Sem Tryz.prog 6 [.agg c.row,.sl 0 4 (t.map Br.row)] (.tup [.bool (holdsN c t).1,.int .i64 (holdsN c t).2]):=by
 have h1:=checkCond_sem c
 have h2:=checkTree_sem t hl ht
 have h3:=fun g1 g2=>holdsOf_sem c (err_hok g1) t (tree_ok g2)
 unfold holdsN
 generalize c.err=e1 at h1 h3 ⊢
 generalize treeErr t=e2 at h2 h3 ⊢
 generalize c.holds t=r at h3 ⊢
 obtain ⟨k,ks,p,vs,lo,hi⟩:=c
 rw [Cond.row_mk] at h1 h3 ⊢
 by_cases g1:e1=0
 ·rw [if_neg (by simpa using g1)]
  by_cases g2:e2=0
  ·rw [if_neg (by simpa using g2)]
   have h3:=h3 g1 g2
   refine si [1000016,1000021,1000047] Tryz.func6 ?_
   repeat'((conv=>whnf);first|(try(first|apply eN|apply eI|apply eC);conv=>whnf);apply sD;(focus first|exact gx h1|exact gx h2|exact gx h3|(refine gx (checkCond_sem ?_)<;>exact pre)|(refine gx (ho12_sem ?_ ?_)<;>exact pre)|(refine gx (bgm_check )<;>exact pre)|(refine gx (checkTree_sem ?_ ?_ ?_)<;>exact pre)|(refine gx (ho34_sem ?_ ?_ ?_ ?_ ?_ ?_ ?_)<;>exact pre)|exact side)|apply rR|apply rE|apply rH| (apply cD<;>intro hb<;>(try simp only[SPLT]at hb)<;>try exact noB))
   all_goals try exact false
   exact finR
  ·rw [if_pos g2]
   clear h3
   refine si [1000016,1000021,1000047] Tryz.func6 ?_
   repeat'((conv=>whnf);first|(try(first|apply eN|apply eI|apply eC);conv=>whnf);apply sD;(focus first|exact gx h1|exact gx h2|(refine gx (checkCond_sem ?_)<;>exact pre)|(refine gx (ho12_sem ?_ ?_)<;>exact pre)|(refine gx (bgm_check )<;>exact pre)|(refine gx (checkTree_sem ?_ ?_ ?_)<;>exact pre)|(refine gx (ho34_sem ?_ ?_ ?_ ?_ ?_ ?_ ?_)<;>exact pre)|exact side)|apply rR|apply rE|apply rH| (apply cD<;>intro hb<;>(try simp only[SPLT]at hb)<;>try exact noB))
   all_goals try exact false
   exact finR
 ·rw [if_pos g1]
  clear h3
  refine si [1000016,1000021,1000047] Tryz.func6 ?_
  repeat'((conv=>whnf);first|(try(first|apply eN|apply eI|apply eC);conv=>whnf);apply sD;(focus first|exact gx h1|exact gx h2|(refine gx (checkCond_sem ?_)<;>exact pre)|(refine gx (ho12_sem ?_ ?_)<;>exact pre)|(refine gx (bgm_check )<;>exact pre)|(refine gx (checkTree_sem ?_ ?_ ?_)<;>exact pre)|(refine gx (ho34_sem ?_ ?_ ?_ ?_ ?_ ?_ ?_)<;>exact pre)|exact side)|apply rR|apply rE|apply rH| (apply cD<;>intro hb<;>(try simp only[SPLT]at hb)<;>try exact noB))
  all_goals try exact false
  exact finR
theorem many_ge (n:Str) (m:Int):m≤pathMany n m:=by
 unfold pathMany
 split<;>omega
theorem many_diff (n:Str) (m m':Int):pathMany n m' - m'=pathMany n m - m:=by
 unfold pathMany
 split<;>omega
theorem chk_ge:∀ (b:Br) (deep many:Int),many≤(b.chk deep many).1:=by
 intro b
 induction b using Br.ind with
 |h n t els ks ih=>
  intro deep many
  have h1:=many_ge n many
  have hl:∀ (l:List Br),(∀ x ∈ l,x ∈ ks)→∀ d m:Int,m≤(Br.chks d m l).1:=by
   intro l
   induction l with
   |nil=>intro _ d m;rw [bchks_nil];exact Int.le_refl _
   |cons x l ihl=>
    intro hm d m
    have h2:=ih x (hm x (by simp)) d m
    rw [bchks_cons]
    split
    ·exact h2
    ·exact Int.le_trans h2 (ihl (fun y hy=>hm y (by simp [hy])) _ _)
  have h3:=hl ks (fun _ h=>h) (deep+1) (pathMany n many)
  rw [bchk_mk]
  repeat' split
  all_goals first|exact h1|omega
theorem chk_mono:∀ (b:Br) (deep many deep' many':Int),deep'≤deep→many'≤many→(b.chk deep many).2=0→(b.chk deep' many').2=0∧(b.chk deep' many').1 - many'=(b.chk deep many).1 - many:=by
 intro b
 induction b using Br.ind with
 |h n t els ks ih=>
  intro deep many deep' many' hd hm h
  have hl:∀ (l:List Br),(∀ x ∈ l,x ∈ ks)→∀ d m d' m':Int,d'≤d→m'≤m→(Br.chks d m l).2=0→(Br.chks d' m' l).2=0∧(Br.chks d' m' l).1 - m'=(Br.chks d m l).1 - m:=by
   intro l
   induction l with
   |nil=>intro _ d m d' m' _ _ _;rw [bchks_nil,bchks_nil];exact ⟨rfl,by dsimp only;omega⟩
   |cons x l ihl=>
    intro hm d m d' m' hd hm' h
    rw [bchks_cons] at h
    by_cases hx:(x.chk d m).2=0
    ·rw [if_neg (by simpa using hx)] at h
     obtain ⟨a1,a2⟩:=ih x (hm x (by simp)) d m d' m' hd hm' hx
     obtain ⟨b1,b2⟩:=ihl (fun y hy=>hm y (by simp [hy])) d (x.chk d m).1 d' (x.chk d' m').1 hd (by omega) h
     rw [bchks_cons,bchks_cons,if_neg (by simpa using a1),if_neg (by simpa using hx)]
     exact ⟨b1,by omega⟩
    ·rw [if_pos hx] at h
     exact absurd h hx
  have hn:=many_diff n many many'
  have hle:pathMany n many'≤pathMany n many:=by omega
  rw [bchk_mk] at h
  rw [bchk_mk,bchk_mk]
  by_cases c1:2000 < pathMany n many∨6 < deep
  ·rw [if_pos c1] at h;cases h
  ·rw [if_neg c1] at h
   rw [if_neg c1,if_neg (by omega)]
   by_cases c2:n ≠ []∧isNameB n=false
   ·rw [if_pos c2] at h;cases h
   ·rw [if_neg c2] at h
    rw [if_neg c2,if_neg c2]
    by_cases c3:n = []∧0 < ks.length
    ·rw [if_pos c3] at h;cases h
    ·rw [if_neg c3] at h
     rw [if_neg c3,if_neg c3]
     by_cases c4:n ≠ []∧(¬ (t = []∧els.length=0)∨ks.length=0∨headNamed ks=true)
     ·rw [if_pos c4] at h;cases h
     ·rw [if_neg c4] at h
      rw [if_neg c4,if_neg c4]
      by_cases c5:n = []
      ·rw [if_pos c5] at h
       rw [if_pos c5,if_pos c5]
       exact ⟨h,hn⟩
      ·rw [if_neg c5] at h
       rw [if_neg c5,if_neg c5]
       obtain ⟨a1,a2⟩:=hl ks (fun _ h=>h) (deep+1) (pathMany n many) (deep'+1) (pathMany n many') (by omega) hle h
       exact ⟨a1,by omega⟩
theorem chks_mono:∀ (l:List Br) (d m d' m':Int),d'≤d→m'≤m→(Br.chks d m l).2=0→(Br.chks d' m' l).2=0
 |[],_,_,_,_,_,_,_=>by rw [bchks_nil]
 |x::l,d,m,d',m',hd,hm,h=>by
  rw [bchks_cons] at h
  by_cases hx:(x.chk d m).2=0
  ·rw [if_neg (by simpa using hx)] at h
   obtain ⟨a1,a2⟩:=chk_mono x d m d' m' hd hm hx
   rw [bchks_cons,if_neg (by simpa using a1)]
   exact chks_mono l d _ d' _ hd (by omega) h
  ·rw [if_pos hx] at h
   exact absurd h hx
theorem kidsRt:∀ {l:List Br} {d m:Int},0≤d→0≤m→(Br.chks d m l).2=0→∀ b ∈ l,treeErr b.kids=0
 |x::l,d,m,hd,hm,h,b,hb=>by
  rw [bchks_cons] at h
  by_cases hx:(x.chk d m).2=0
  ·rw [if_neg (by simpa using hx)] at h
   rcases List.mem_cons.1 hb with rfl|hb
   ·obtain ⟨n,t,els,ks⟩:=b
    show treeErr ks=0
    have hg:=many_ge n m
    rw [bchk_mk] at hx
    split at hx
    ·cases hx
    ·split at hx
     ·cases hx
     ·split at hx
      ·cases hx
      ·rename_i c3
       split at hx
       ·cases hx
       ·split at hx
        ·rename_i c5
         have:ks = []:=List.length_eq_zero_iff.1 (by
          rcases Nat.eq_zero_or_pos ks.length with h|h
          ·exact h
          ·exact absurd ⟨c5,h⟩ c3)
         rw [this]
         unfold treeErr
         rw [bchks_nil]
        ·exact chks_mono ks _ _ 0 0 (by omega) (by omega) hx
   ·exact kidsRt hd (Int.le_trans hm (chk_ge x d m)) h b hb
  ·rw [if_pos hx] at h
   exact absurd h hx
theorem insideRt:∀ (ns:List Str) {t:List Br},treeErr t=0→∀ x ∈ inside1 ns t,treeErr x=0
 |[],t,h,x,hx=>by
  rw [inside1] at hx
  obtain rfl:=List.mem_singleton.1 hx
  exact h
 |n::ns,t,h,x,hx=>by
  rw [inside1] at hx
  obtain ⟨b,hb,hx⟩:=List.mem_flatMap.1 hx
  exact insideRt ns (kidsRt (Int.le_refl 0) (Int.le_refl 0) h b (List.mem_filter.1 hb).1) x hx
theorem group_right {p:Str} {t:List Br} (h:treeErr t=0):∀ x ∈ kidsP p t,treeErr x=0:=fun x hx=>by
 unfold kidsP at hx
 split at hx
 ·obtain rfl:=List.mem_singleton.1 hx
  exact h
 ·exact insideRt _ h x hx
end Go.Proofs.YtdhlopciapncfaaGreatDoor
