/- Numbers of a path: plain, and the program's reading of them (walks). Paths of groups: the program's and the reference's (walks). -/
import Derived.Test.YtindehjiaknokaaGreatDoorY14
import Derived.Test.YtindehjiaknokaaGreatDoorY15
import Derived.Lib.Atoi
import Derived.Lib.AtoiErrMem
namespace Go.Proofs.YtindehjiaknokaaGreatDoor
set_option linter.unusedSimpArgs false
set_option linter.unusedVariables false
open Go.RowKit
set_option maxRecDepth 100000
set_option maxHeartbeats 1000000
def digByte (c:UInt8):Bool:=decide (48≤c.toNat) && decide (c.toNat≤57)
def valN (s:List UInt8):Int:=s.foldl (fun n c=>10 * n+(c.toNat - 48)) 0
def headZero (s:List UInt8):Bool:=decide (1 < s.length) && decide ((s.getD (Int.toNat 0) 0).toNat=48)
def canonB (s:List UInt8):Bool:=decide (1≤s.length) && decide (s.length≤3) && !headZero s && s.all digByte
def numN (s:List UInt8):Int × Bool:=if canonB s=true then (valN s,true) else (0,false)
theorem valN_snoc (s:List UInt8) (x:UInt8):valN (s ++ [x])=10 * valN s+(x.toNat - 48):=by simp [valN]
theorem valN_bd {s:List UInt8} (h:s.all digByte=true):0≤valN s∧valN s < 10 ^ s.length:=by
 have key:∀ (r:List UInt8),r.reverse.all digByte=true→0≤valN r.reverse∧valN r.reverse < 10 ^ r.length:=by
  intro r
  induction r with
  |nil=>exact fun _=>by simp [valN]
  |cons x r ih=>
   intro h
   rw [List.reverse_cons,List.all_append,Bool.and_eq_true] at h
   obtain ⟨i1,i2⟩:=ih h.1
   have hx:=h.2
   simp only [List.all_cons,List.all_nil,Bool.and_true,digByte,Bool.and_eq_true,decide_eq_true_eq] at hx
   rw [List.reverse_cons,valN_snoc,List.length_cons,Int.pow_succ]
   constructor<;>omega
 have:=key s.reverse (by rw [List.reverse_reverse];exact h)
 rwa [List.reverse_reverse,List.length_reverse] at this
theorem dec_val:∀ (l:List UInt8) (acc:Nat),l.all digByte=true→∃ n:Nat,Lib.decFrom acc l=some n∧(n:Int)=l.foldl (fun (n:Int) c=>10 * n+(c.toNat - 48)) acc
 |[],acc,_=>⟨acc,rfl,rfl⟩
 |c::l,acc,h=>by
  simp only [List.all_cons,Bool.and_eq_true] at h
  have hc:=h.1
  simp only [digByte,Bool.and_eq_true,decide_eq_true_eq] at hc
  obtain ⟨n,h1,h2⟩:=dec_val l (10 * acc+(c.toNat - 48)) h.2
  refine ⟨n,?_,?_⟩
  ·have hd:Lib.digitVal c=some (c.toNat - 48):=by
    unfold Lib.digitVal
    simp [UInt8.le_iff_toNat_le,hc]
   rw [Lib.decFrom,hd]
   have e:acc * 10+(c.toNat - 48)=10 * acc+(c.toNat - 48):=by omega
   simp only [e]
   exact h1
  ·rw [h2,List.foldl_cons]
   congr 1
   omega
theorem atoi_val {s:List UInt8} (hl:1≤s.length) (h:s.all digByte=true):Lib.atoi s=some (valN s):=by
 cases s with
 |nil=>simp at hl
 |cons b r=>
  have hb:=h
  simp only [List.all_cons,Bool.and_eq_true] at hb
  have hb1:=hb.1
  simp only [digByte,Bool.and_eq_true,decide_eq_true_eq] at hb1
  have h45:(b == 45)=false:=by
   rw [beq_eq_false_iff_ne]
   intro e
   subst e
   simp at hb1
  have h43:(b == 43)=false:=by
   rw [beq_eq_false_iff_ne]
   intro e
   subst e
   simp at hb1
  obtain ⟨n,h1,h2⟩:=dec_val (b::r) 0 h
  unfold Lib.atoi
  simp only [h45,h43,Bool.false_eq_true,if_false,Lib.decNat,List.isEmpty_cons,h1,Option.map_some]
  rw [h2]
  rfl
theorem sem_valsG {P:Program} {f:Nat} [e:Enters P f] {ds:List D} {us:List Value} {d:D} {v:Value} (hv:valsOf ds=some us) (hc:d.calm=true) (hz:∀ lim w,Fz lim w v d) (h:∀ (S:Sig) (w:World),GL S w→Calls P f us.toArray w fun e w'=>e=.returned v∧Below w.heap.size w w'):Sem P f ds d:=
 ⟨e,hc,fun S w vs hw hl hr=>by
  obtain rfl:=vals_eq (q:=fun i=>.slot i) hv hl hr
  exact (h S w hw.gl).mono fun e w' ⟨he,hx⟩=>⟨v,S,he,(PT.ext' hw hx).wf,(PT.ext' hw hx).trans,.fz (hz _ _)⟩⟩
theorem atoi_sem (s:Str) (n:Int) (hl:s.length≤18) (h:Lib.atoi s=some n):Sem Tryz.prog 89 [.str s] (.tup [.int .i64 n,.pv .nilIface]):=
 sem_valsG (us := [.string ⟨s.toArray⟩]) (v:=.tuple #[.int .i64 n,.nilIface]) rfl rfl (fun _ _=>.tup [.int .i64 n,.nilIface] rfl fun j d v hd hv=>by
  match j,hd,hv with
  |0,hd,hv=>cases hd;cases hv;exact .int _ _
  |1,hd,hv=>cases hd;cases hv;exact .pv _
  | j+2,hd,_=>cases hd) fun S w _=>
  (Tryz.strconv_Atoi ⟨s.toArray⟩ n (by show s.toArray.size≤_;simpa using hl) (by simpa using h) w).mono fun e w' ⟨he,t,hw⟩=>⟨he,by subst hw;exact Lib.bytesWorld_below w _ t⟩
theorem inDigits_sem (s:Str) (hs:s.length≤9223372036854775807):Sem Tryz.prog 104 [.str s,.int .u8 48,.int .u8 57] (.bool (s.all digByte)):=by
 refine si [] Tryz.func104 ?_
 repeat'((conv=>whnf);first|(try(first|apply eN|apply eC);conv=>whnf);apply sD;(focus(try intro hc;have hc0:=hc;(try simp only[SPLT]at hc);try refine and0 ?_);first|exact sideG)|apply rR|apply rE|apply rH| (apply cD<;>intro hb<;>(try simp only[SPLT]at hb)<;>try exact noB))
 all_goals try exact false
 refine loop_go (M:=fun t=>mem t []) hT hM (fun k:Nat => [(10,.int .i64 k)]) (fun k=>k≤s.length∧(s.take k).all digByte=true) (fun k=>s.length - k) (0) ?_ ?_ ?_
 ·exact finF
 ·exact ⟨by omega,rfl⟩
 ·rintro k ⟨hk,hall⟩
  repeat'((conv=>whnf);first|(try(first|apply eN|apply eC);conv=>whnf);apply sD;(focus(try intro hc;have hc0:=hc;(try simp only[SPLT]at hc);try refine and0 ?_);first|exact sideG)|apply rR|apply rE|apply rH| (apply cD<;>intro hb<;>(try simp only[SPLT]at hb)<;>try exact noB))
  all_goals try exact false
  ·rename_i hb0
   obtain ⟨x,hx⟩:∃ x,s[k]?=some x:=⟨s[k],by simp⟩
   repeat' ((conv=>whnf);first|exact endR|with_reducible first|apply And.intro|apply oR|apply oN|apply dC)
   all_goals (conv=>whnf)
   refine rle_bool (Eq.symm ?_)
   simp [hx] at hb
   have:digByte x=false:=by
    simp [digByte]
    omega
   rw [List.all_eq_false]
   exact ⟨x,gMem hx,by simp [this]⟩
  ·rename_i hb0
   obtain ⟨x,hx⟩:∃ x,s[k]?=some x:=⟨s[k],by simp⟩
   refine ⟨k+1,⟨by omega,?_⟩,by omega,?_⟩
   ·simp [hx] at hb
    rw [take_at hx,List.all_append,hall]
    have:digByte x=true:=by
     simp [digByte]
     omega
    simp [this]
   ·exact finF
  ·repeat' ((conv=>whnf);first|exact endR|with_reducible first|apply And.intro|apply oR|apply oN|apply dC)
   all_goals (conv=>whnf)
   refine rle_bool (Eq.symm ?_)
   rw [List.take_of_length_le (by omega)] at hall
   exact hall
theorem isDigits_sem (s:Str) (hs:s.length≤9223372036854775807):Sem Tryz.prog 129 [.str s] (.bool (!(s == []) && s.all digByte)):=by
 have h:=inDigits_sem s hs
 refine si [] Tryz.func129 ?_
 repeat'((conv=>whnf);first|(try(first|apply eN|apply eC);conv=>whnf);apply sD;(focus(try intro hc;have hc0:=hc;(try simp only[SPLT]at hc);try refine and0 ?_);first|exact gx h|(refine gx (inDigits_sem ?_ ?_)<;>exact pre)|(refine gx (inBytes_sem ?_ ?_ ?_ ?_)<;>exact pre)|exact sideG)|apply rR|apply rE|apply rH| (apply cD<;>intro hb<;>(try simp only[SPLT]at hb)<;>try exact noB))
 all_goals try exact false
 exact finR
theorem Number_sem (s:Str) (hs:s.length≤9223372036854775807):Sem Tryz.prog 103 [.str s,.int .i64 3] (.tup [.int .i64 (numN s).1,.bool (numN s).2]):=by
 have hI:=isDigits_sem s hs
 by_cases hc:canonB s=true
 ·have e:numN s=(valN s,true):=by unfold numN;rw [if_pos hc]
  unfold canonB headZero at hc
  simp only [Bool.and_eq_true,decide_eq_true_eq,Bool.not_eq_true',Bool.and_eq_false_iff,decide_eq_false_iff_not] at hc
  obtain ⟨⟨⟨h1,h2⟩,h3⟩,h4⟩:=hc
  have hne:(s == [])=false:=by
   cases s with
   |nil=>simp at h1
   |cons _ _=>rfl
  have hA:=atoi_sem s (valN s) (by omega) (atoi_val h1 h4)
  rw [hne,h4] at hI
  rw [e]
  refine si [] Tryz.func103 ?_
  repeat'((conv=>whnf);first|(try(first|apply eN|apply eC);conv=>whnf);apply sD;(focus(try intro hc;have hc0:=hc;(try simp only[SPLT]at hc);try refine and0 ?_);first|exact gx hI|exact gx hA|(refine gx (isDigits_sem ?_ ?_)<;>exact pre)|(refine gx (atoi_sem ?_ ?_ ?_ ?_)<;>exact pre)|exact sideG)|(first|apply dG|apply kB);kernel_rfl|apply rR|apply rE|apply rH| (apply cD<;>intro hb<;>(try simp only[SPLT]at hb)<;>try exact noB))
  all_goals try exact false
  ·exfalso
   rcases hb with (h|h|h)|h
   ·omega
   ·cases h
   ·cases h
   ·omega
  ·exact finR
 ·have e:numN s=(0,false):=by unfold numN;rw [if_neg hc]
  rw [e]
  cases hq:(!(s == []) && s.all digByte)
  ·rw [hq] at hI
   refine si [] Tryz.func103 ?_
   repeat'((conv=>whnf);first|(try(first|apply eN|apply eC);conv=>whnf);apply sD;(focus(try intro hc;have hc0:=hc;(try simp only[SPLT]at hc);try refine and0 ?_);first|exact gx hI|(refine gx (isDigits_sem ?_ ?_)<;>exact pre)|(refine gx (atoi_sem ?_ ?_ ?_ ?_)<;>exact pre)|exact sideG)|(first|apply dG|apply kB);kernel_rfl|apply rR|apply rE|apply rH| (apply cD<;>intro hb<;>(try simp only[SPLT]at hb)<;>try exact noB))
   all_goals try exact false
   exact finR
  ·have hc':3 < s.length∨(1 < s.length∧(s.getD (Int.toNat 0) 0).toNat=48):=by
    rw [Bool.and_eq_true] at hq
    have h1:1≤s.length:=by
     cases s with
     |nil=>simp at hq
     |cons _ _=>simp
    by_cases h2:s.length≤3
    ·refine .inr ?_
     unfold canonB at hc
     rw [decide_eq_true h1,decide_eq_true h2,hq.2,Bool.true_and,Bool.true_and,Bool.and_true] at hc
     simpa [headZero] using hc
    ·exact .inl (by omega)
   rw [hq] at hI
   refine si [] Tryz.func103 ?_
   repeat'((conv=>whnf);first|(try(first|apply eN|apply eC);conv=>whnf);apply sD;(focus(try intro hc;have hc0:=hc;(try simp only[SPLT]at hc);try refine and0 ?_);first|exact gx hI|(refine gx (isDigits_sem ?_ ?_)<;>exact pre)|(refine gx (atoi_sem ?_ ?_ ?_ ?_)<;>exact pre)|exact sideG)|(first|apply dG|apply kB);kernel_rfl|apply rR|apply rE|apply rH| (apply cD<;>intro hb<;>(try simp only[SPLT]at hb)<;>try exact noB))
   all_goals try exact false
   exact finR
def nameSet:Str := [97,98,99,100,101,102,103,104,105,106,107,108,109,110,111,112,113,114,115,116,117,118,119,120,121,122,48,49,50,51,52,53,54,55,56,57,45]
theorem nameSet_contains (c:UInt8):nameSet.contains c=nameByte c:=by
 have:∀ n:Fin 256,nameSet.contains (UInt8.ofNat n.val)=nameByte (UInt8.ofNat n.val):=by decide +kernel
 have h:=this ⟨c.toNat,c.toNat_lt⟩
 simpa using h
theorem trim_name (s:Str):(Lib.trimS s nameSet == [])=s.all nameByte:=by
 have h1:=trimS_nilK s nameSet
 have h2:s.all (nameSet.contains ·)=s.all nameByte:=by
  congr 1
  exact funext nameSet_contains
 rw [h2] at h1
 rw [Bool.eq_iff_iff,beq_iff_eq,h1]
theorem isNameB_at (s:Str) (h:0 < s.length):isNameB s=(decide (s.length≤40) && (decide (97≤(s[0]).toNat) && decide ((s[0]).toNat≤122)) && s.all nameByte):=by
 cases s with
 |nil=>simp at h
 |cons c t=>simp only [isNameB,nameHead,List.length_cons,List.getElem_cons_zero];congr 2
theorem trimN_sem (s:Str) (hs:s.length≤9223372036854775807):Sem Tryz.prog 126 [.str s,.str nameSet] (.str (Lib.trimS s nameSet)):=
 sem_valsK (us := [.string ⟨s.toArray⟩,.string ⟨nameSet.toArray⟩]) (v:=.string ⟨(Lib.trimS s nameSet).toArray⟩) rfl rfl (fun _ _=>.str _) fun w=>
  Any.strings_Trim_laid Tryz.lays160 (by kernel_rfl) ⟨s.toArray⟩ ⟨nameSet.toArray⟩ w (by show s.toArray.size≤_;simp;omega) (by decide) (ascii_of_all (by decide))
theorem isName_sem (s:Str) (hs:s.length≤9223372036854775807):Sem Tryz.prog 100 [.str s] (.bool (isNameB s)):=by
 rcases Nat.eq_zero_or_pos s.length with h0|h0
 ·obtain rfl:s = []:=List.eq_nil_of_length_eq_zero h0
  refine si [] Tryz.func100 ?_
  repeat'((conv=>whnf);first|(try(first|apply eN|apply eC);conv=>whnf);apply sD;(focus(try intro hc;have hc0:=hc;(try simp only[SPLT]at hc);try refine and0 ?_);first|(refine gx (trimN_sem ?_ hs)<;>exact pre)|(refine gx (trimT_sem ?_ ?_)<;>exact pre)|exact sideG)|apply rR|apply rE|apply rH| (apply cD<;>intro hb<;>(try simp only[SPLT]at hb)<;>try exact noB))
  all_goals try exact false
  exact finR
 ·have hn:=isNameB_at s h0
  obtain ⟨c,hc⟩:∃ c,s[0]?=some c:=⟨s[0],by simp⟩
  have hc1:s[0]=c:=(List.getElem?_eq_some_iff.1 hc).2
  rw [hc1] at hn
  refine si [] Tryz.func100 ?_
  repeat'((conv=>whnf);first|(try(first|apply eN|apply eC);conv=>whnf);apply sD;(focus(try intro hc;have hc0:=hc;(try simp only[SPLT]at hc);try refine and0 ?_);first|(refine gx (trimN_sem ?_ hs)<;>exact pre)|(refine gx (trimT_sem ?_ ?_)<;>exact pre)|exact sideG)|apply rR|apply rE|apply rH| (apply cD<;>intro hb<;>(try simp only[SPLT]at hb)<;>try exact noB))
  all_goals try exact false
  ·repeat' ((conv=>whnf);first|exact endR|with_reducible first|apply And.intro|apply oR|apply oN|apply dC)
   all_goals (conv=>whnf)
   refine rle_bool ?_
   rw [hn]
   simp [hc] at hb
   simp
   omega
  ·repeat' ((conv=>whnf);first|exact endR|with_reducible first|apply And.intro|apply oR|apply oN|apply dC)
   all_goals (conv=>whnf)
   refine rle_bool ?_
   have e:=trim_name s
   rw [hn]
   simp [hc] at hb
   rw [decide_eq_true (show s.length≤40 by omega),decide_eq_true (show 97≤c.toNat by omega),decide_eq_true (show c.toNat≤122 by omega)]
   exact e
def idxS (q:Str→Bool):List Str→Int→Int
 |[],_ => -1
 |a::r,k=>if q a=true then k else idxS q r (k+1)
theorem idxS_any (q:Str→Bool):∀ (l:List Str) (k:Int),0≤k→decide (0≤idxS q l k)=l.any q
 |[],k,_=>rfl
 |a::r,k,h=>by
  rw [idxS,List.any_cons]
  by_cases ha:q a=true
  ·rw [if_pos ha,ha];simpa using h
  ·rw [if_neg ha,idxS_any q r (k+1) (by omega)]
   simp [ha]
theorem idxS_at {q:Str→Bool} {l:List Str} {k:Nat} {a:Str} (h:l[k]?=some a):idxS q (l.drop k) k=if q a=true then (k:Int) else idxS q (l.drop (k+1)) ((k+1:Nat):Int):=by
 rw [List.drop_eq_getElem_cons (gLt h),(List.getElem?_eq_some_iff.1 h).2]
 rfl
theorem indexFuncS_sem (l:List Str) (f:Nat) (q:Str→Bool) (hl:l.length≤1000000) (hq:∀ a ∈ l,Sem Tryz.prog f [.str a] (.bool (q a))):Sem Tryz.prog 125 [.sl 0 1 (l.map fun s => [.str s]),.fn f []] (.int .i64 (idxS q l 0)):=by
 refine si [] Tryz.func125 ?_
 repeat'((conv=>whnf);first|(try(first|apply eN|apply eI|apply eC);conv=>whnf);apply sD;(focus first|exact side)|apply rR|apply rE|apply rH| (apply cD<;>intro hb<;>(try simp only[SPLT]at hb)<;>try exact noB))
 all_goals try exact false
 refine loop_go (M:=fun t=>mem t []) hT hM (fun k:Nat => [(8,.int .i64 k)]) (fun k=>k≤l.length∧idxS q (l.drop k) k=idxS q l 0) (fun k=>l.length - k) (0) ?_ ?_ ?_
 ·exact finF
 ·exact ⟨Nat.zero_le _,rfl⟩
 ·rintro k ⟨hk,hi⟩
  rcases hx:l[k]? with _|a
  ·have hk':k=l.length:=by have:=List.getElem?_eq_none_iff.1 hx;omega
   subst hk'
   rw [List.drop_length] at hi
   repeat'((conv=>whnf);first|(try(first|apply eN|apply eI|apply eC);conv=>whnf);apply sD;(focus first|exact side)|apply rR|apply rE|apply rH| (apply cD<;>intro hb<;>(try simp only[SPLT]at hb)<;>try exact noB))
   all_goals try exact false
   repeat' ((conv=>whnf);first|exact endR|with_reducible first|apply And.intro|apply oR|apply oN|apply dC)
   all_goals (conv=>whnf)
   exact rle_int hi
  ·have hlt:=(gLt hx)
   rw [idxS_at hx] at hi
   repeat'((conv=>whnf);first|(try(first|apply eN|apply eI|apply eC);conv=>whnf);apply sD;(focus first|(refine gx (hq ?_ (gMem hx))<;>exact pre)|exact side)|apply rR|apply rE|apply rH| (apply cD<;>intro hb<;>(try simp only[SPLT]at hb)<;>try exact noB))
   all_goals try exact false
   ·repeat' ((conv=>whnf);first|exact endR|with_reducible first|apply And.intro|apply oR|apply oN|apply dC)
    all_goals (conv=>whnf)
    exact rle_int (by rw [← hi,if_pos hb])
   ·refine ⟨k+1,⟨by omega,by rw [← hi,if_neg (by simp [hb])]⟩,by omega,?_⟩
    exact finF
theorem containsFuncS_sem (l:List Str) (f:Nat) (q:Str→Bool) (hl:l.length≤1000000) (hq:∀ a ∈ l,Sem Tryz.prog f [.str a] (.bool (q a))):Sem Tryz.prog 98 [.sl 0 1 (l.map fun s => [.str s]),.fn f []] (.bool (l.any q)):=by
 have hI:=indexFuncS_sem l f q hl hq
 refine si [] Tryz.func98 ?_
 repeat'((conv=>whnf);first|(try(first|apply eN|apply eC);conv=>whnf);apply sD;(focus first|exact gx hI|(refine gx (indexFuncS_sem ?_ ?_ ?_ ?_ ?_)<;>exact pre)|exact side)|apply rR|apply rE|apply rH| (apply cD<;>intro hb<;>(try simp only[SPLT]at hb)<;>try exact noB))
 all_goals try exact false
 repeat' ((conv=>whnf);first|exact endR|with_reducible first|apply And.intro|apply oR|apply oN|apply dC)
 all_goals (conv=>whnf)
 exact rle_bool (idxS_any q l 0 (by omega))
theorem part_le {c:UInt8}:∀ {s w:List UInt8},w ∈ partsAt c s→w.length≤s.length
 |[],w,h=>by simp [partsAt] at h;subst h;simp
 |b::r,w,h=>by
  rw [partsAt] at h
  split at h
  ·rcases List.mem_cons.1 h with rfl|h
   ·simp
   ·have:=part_le h
    simp only [List.length_cons]
    omega
  ·cases hw:partsAt c r with
   |nil=>exact absurd hw (parts_ne r)
   |cons x t=>
    have ih:∀ y ∈ partsAt c r,y.length≤r.length:=fun y hy=>part_le hy
    rw [hw] at h ih
    rcases List.mem_cons.1 h with rfl|h
    ·have:=ih x (by simp)
     simp only [List.length_cons]
     omega
    ·have:=ih w (by simp [h])
     simp only [List.length_cons]
     omega
def namesB (p:Str):Bool:=(partsAt 47 p).all isNameB
theorem isNot_sem (s:Str) (hs:s.length≤9223372036854775807):Sem Tryz.prog 99 [.str s] (.bool (!isNameB s)):=by
 have h:=isName_sem s hs
 generalize isNameB s=r at h ⊢
 refine si [] Tryz.func99 ?_
 repeat'((conv=>whnf);first|(try(first|apply eN|apply eC);conv=>whnf);apply sD;(focus first|exact gx h|(refine gx (isName_sem ?_ ?_)<;>exact pre)|exact side)|apply rR|apply rE|apply rH| (apply cD<;>intro hb<;>(try simp only[SPLT]at hb)<;>try exact noB))
 all_goals try exact false
 exact finR
theorem any_not {α:Type} (q:α→Bool) (l:List α):(!(l.any fun a => !q a))=l.all q:=by
 induction l with
 |nil=>rfl
 |cons a l ih=>rw [List.any_cons,List.all_cons,← ih];cases q a<;>simp
theorem namesOf_sem (p:Str) (hp:p.length≤1000):Sem Tryz.prog 79 [.str p] (.tup [.sl 0 1 ((partsAt 47 p).map fun s => [.str s]),.bool (namesB p)]):=by
 have h1:=(split_sem p 47 (by omega)).frozen
 have hl:=parts_len (c:=47) p
 have h2:=containsFuncS_sem (partsAt 47 p) 99 (fun s => !isNameB s) (by omega) fun a ha=>isNot_sem a (by have:=part_le ha;omega)
 have h3:=any_not isNameB (partsAt 47 p)
 unfold namesB
 rw [← h3]
 generalize (partsAt 47 p).any (fun s => !isNameB s)=b at h2 ⊢
 generalize partsAt 47 p=l at h1 h2 ⊢
 refine si [] Tryz.func79 ?_
 repeat'((conv=>whnf);first|(try(first|apply eN|apply eC);conv=>whnf);apply sD;(focus first|exact gx h1|exact gx h2|(refine gx (split_sem ?_ ?_ ?_)<;>exact pre)|(refine gx (containsFuncS_sem ?_ ?_ ?_ ?_ ?_)<;>exact pre)|exact side)|apply rR|apply rE|apply rH| (apply cD<;>intro hb<;>(try simp only[SPLT]at hb)<;>try exact noB))
 all_goals try exact false
 exact finR
def groupsErr (p:Str):Int:=if 200 < p.length then 2 else if p ≠ []∧namesB p=false then 10 else 0
theorem checkGroups_sem (p:Str):Sem Tryz.prog 55 [.str p] (.int .i64 (groupsErr p)):=by
 have h:=fun h:p.length≤1000=>namesOf_sem p h
 unfold groupsErr
 generalize namesB p=b at h ⊢
 refine si [] Tryz.func55 ?_
 repeat'((conv=>whnf);first|(try(first|apply eN|apply eC);conv=>whnf);apply sD;(focus(try intro hc;have hc0:=hc;(try simp only[SPLT]at hc);try refine and0 ?_);first|(refine gx (h (by omega))<;>exact pre)|(refine gx (namesOf_sem ?_ ?_)<;>exact pre)|exact sideG)|apply rR|apply rE|apply rH| (apply cD<;>intro hb<;>(try simp only[SPLT]at hb)<;>try exact noB))
 all_goals try exact false
 all_goals (
  repeat' ((conv=>whnf);first|exact endR|with_reducible first|apply And.intro|apply oR|apply oN|apply dC)
  all_goals (conv=>whnf)
  refine rle_int ?_
  clear h
  by_cases hp:p = []<;>cases b<;>simp [hp] at hb ⊢<;>omega)
end Go.Proofs.YtindehjiaknokaaGreatDoor
