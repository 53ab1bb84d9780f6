/- Series and rows of gaps, plain. Arrivals: what becomes of them (plain). Each arrival is passed on once (plain). -/
import Derived.Test.YtalejlbiccdfjaaDoorZ4
import Derived.Test.YtalejlbiccdfjaaDoorZ5
namespace Go.Proofs.YtalejlbiccdfjaaDoor
set_option linter.unusedSimpArgs false
set_option linter.unusedVariables false
open Go.RowKit
set_option maxRecDepth 100000
set_option maxHeartbeats 1000000
theorem series_ok (s:Ser) (h:seriesFaultN s=0):0≤s.first∧s.first < s.last∧s.last≤999999999999999:=by
 unfold seriesFaultN at h
 split at h
 ·cases h
 ·rename_i h3
  simp only [outB,Bool.or_eq_true,not_or,decide_eq_true_eq] at h3
  omega
def sizeN (s:Ser):Int:=s.last - s.first+1
def betweenN (s:Ser) (a b:Int):Int:=(b - a+sizeN s) % sizeN s
def stepsN (s:Ser) (a b:Int):Int:=if a≤b then b - a else b - a+sizeN s
theorem between_steps (s:Ser) (a b:Int) (ha:s.first≤a∧a≤s.last) (hb:s.first≤b∧b≤s.last):betweenN s a b=stepsN s a b:=by
 unfold betweenN stepsN sizeN
 split
 ·have e:b - a+(s.last - s.first+1)=(b - a)+(s.last - s.first+1) * 1:=by omega
  rw [e,Int.add_mul_emod_self_left,Int.emod_eq_of_lt (by omega) (by omega)]
 ·rw [Int.emod_eq_of_lt (by omega) (by omega)]
theorem steps_bd (s:Ser) (a b:Int) (ha:s.first≤a∧a≤s.last) (hb:s.first≤b∧b≤s.last):0≤stepsN s a b∧stepsN s a b < sizeN s:=by
 unfold stepsN sizeN;split<;>omega
structure Gp where
 fr:Int
 tgt:Int
abbrev Gp.cells (g:Gp):List Value := [.int .i64 g.fr,.int .i64 g.tgt]
def gapRows (s:Ser):Nat→Int→Int→List Gp
 |0,_,_ => []
 |f+1,a,m=>if m≤0 then [] else if s.last - a+1 < m then ⟨a,s.last⟩::gapRows s f s.first (m - (s.last - a+1)) else [⟨a,a+m - 1⟩]
theorem gapRows_fuel (s:Ser) (hs:s.first≤s.last):∀ (f g:Nat) (a m:Int),s.first≤a→a≤s.last→m.toNat≤f→m.toNat≤g→gapRows s f a m=gapRows s g a m
 |0,0,_,_,_,_,_,_=>rfl
 |0,g+1,a,m,_,_,h,_=>by
  simp only [gapRows];rw [if_pos (by omega)]
 |f+1,0,a,m,_,_,_,h=>by
  simp only [gapRows];rw [if_pos (by omega)]
 |f+1,g+1,a,m,h1,h2,h3,h4=>by
  simp only [gapRows]
  split
  ·rfl
  ·split
   ·rw [gapRows_fuel s hs f g s.first _ (by omega) (by omega) (by omega) (by omega)]
   ·rfl
def rowsL (s:Ser) (a m:Int):List Gp:=gapRows s m.toNat a m
theorem rowsL_nil (s:Ser) (a m:Int) (h:m≤0):rowsL s a m = []:=by
 unfold rowsL
 have:m.toNat=0:=by omega
 rw [this];rfl
theorem rowsL_more (s:Ser) (hs:s.first≤s.last) (a m:Int) (ha:s.first≤a∧a≤s.last) (h:s.last - a+1 < m):rowsL s a m=⟨a,s.last⟩::rowsL s s.first (m - (s.last - a+1)):=by
 unfold rowsL
 obtain ⟨f,hf⟩:∃ f,m.toNat=f+1:=⟨m.toNat - 1,by omega⟩
 rw [hf]
 simp only [gapRows]
 rw [if_neg (by omega),if_pos h,gapRows_fuel s hs f _ s.first _ (by omega) (by omega) (by omega) (Nat.le_refl _)]
theorem rowsL_last (s:Ser) (a m:Int) (h0:0 < m) (h:m≤s.last - a+1):rowsL s a m = [⟨a,a+m - 1⟩]:=by
 unfold rowsL
 obtain ⟨f,hf⟩:∃ f,m.toNat=f+1:=⟨m.toNat - 1,by omega⟩
 rw [hf]
 simp only [gapRows]
 rw [if_neg (by omega),if_neg (by omega)]
theorem rowsL_step (s:Ser) (hs:s.first≤s.last) (cur up:Int) (h0:0≤cur) (h1:cur < up):
  rowsL s (s.first+cur % sizeN s) (up - cur)=⟨s.first+cur % sizeN s,s.first+cur % sizeN s+min (up - cur) (s.last - (s.first+cur % sizeN s)+1) - 1⟩ ::
   rowsL s (s.first+(cur+min (up - cur) (s.last - (s.first+cur % sizeN s)+1)) % sizeN s) (up - (cur+min (up - cur) (s.last - (s.first+cur % sizeN s)+1))):=by
 have hz:0 < sizeN s:=by unfold sizeN;omega
 have hm0:=Int.emod_nonneg cur (show sizeN s ≠ 0 by omega)
 have hm1:=Int.emod_lt_of_pos cur hz
 have hsz:sizeN s=s.last - s.first+1:=rfl
 by_cases h:s.last - (s.first+cur % sizeN s)+1 < up - cur
 ·have hmin:min (up - cur) (s.last - (s.first+cur % sizeN s)+1)=s.last - (s.first+cur % sizeN s)+1:=by omega
  rw [hmin,rowsL_more s hs _ _ (by omega) h]
  have e:(cur+(s.last - (s.first+cur % sizeN s)+1)) % sizeN s=0:=by
   have:cur+(s.last - (s.first+cur % sizeN s)+1)=sizeN s * (cur / sizeN s+1):=by
    have:=Int.mul_ediv_add_emod cur (sizeN s)
    rw [Int.mul_add,Int.mul_one];omega
   rw [this,Int.mul_emod_right]
  rw [e]
  congr 1
  ·congr 1;omega
  ·congr 1<;>omega
 ·have hmin:min (up - cur) (s.last - (s.first+cur % sizeN s)+1)=up - cur:=by omega
  rw [hmin,rowsL_last s _ _ (by omega) (by omega),rowsL_nil s _ (up - (cur+(up - cur))) (by omega)]
theorem rowsL_len (s:Ser) (hs:s.first≤s.last) (a m:Int) (ha:s.first≤a∧a≤s.last) (hm:m≤sizeN s):(rowsL s a m).length≤2:=by
 have hsz:sizeN s=s.last - s.first+1:=rfl
 by_cases h:s.last - a+1 < m
 ·rw [rowsL_more s hs a m ha h]
  by_cases h0:0 < m - (s.last - a+1)
  ·rw [rowsL_last s _ _ h0 (by omega)];simp
  ·rw [rowsL_nil s _ _ (by omega)];simp
 ·by_cases h0:0 < m
  ·rw [rowsL_last s _ _ h0 (by omega)];simp
  ·rw [rowsL_nil s _ _ (by omega)];simp
theorem sizeN_bd (s:Ser) (hok:seriesFaultN s=0):2≤sizeN s∧sizeN s≤1000000000000000:=by
 have:=series_ok s hok
 unfold sizeN;omega
def hexByte (c:UInt8):Bool:=(decide (48≤c.toNat) && decide (c.toNat≤57)) || (decide (97≤c.toNat) && decide (c.toNat≤102))
def isDig (s:List UInt8):Bool:=decide (s.length=16) && s.all hexByte
structure Arr where
 time:Int
 num:Int
 dig:Str
def Arr.row (a:Arr):List D := [.int .i64 a.time,.int .i64 a.num,.str a.dig]
structure Sn where
 num:Int
 pl:Int
def Sn.row (y:Sn):List D := [.int .i64 y.num,.int .i64 y.pl]
structure Vd where
 kind:Int
 time:Int
def Vd.row (v:Vd):List D := [.int .i64 v.kind,.int .i64 v.time]
def momB (n:Int):Bool := !(decide (n < 0) || decide (1000000000000000 < n))
def arrF (prev:Option Int) (a:Arr):Int:=
 if momB a.time=false then 1 else if isDig a.dig=false then 3 else match prev with
  |some p=>if a.time < p then 8 else 0
  |none=>0
def arrs:Option Int→List Arr→Int
 |_,[]=>0
 |p,a::l=>if arrF p a ≠ 0 then arrF p a else arrs (some a.time) l
def arrErr (l:List Arr):Int:=if 1000 < l.length then 2 else arrs none l
def allOf (s:Ser) (l:List Arr):Bool:=l.all fun a=>isOfB s a.num
def askErr (s:Ser) (hold:Int) (l:List Arr):Int:=
 if seriesFaultN s ≠ 0 then seriesFaultN s else if arrErr l ≠ 0 then arrErr l else if allOf s l=false then 1 else if outB hold 1 100000000=true then 1 else 0
def findS (p:Int):List Sn→Option Sn
 |[]=>none
 |y::l=>if y.pl=p then some y else findS p l
def delS (p:Int):List Sn→List Sn
 |[] => []
 |y::l=>if y.pl=p then l else y::delS p l
def lastS (p:Int):List Sn→Option Sn
 |[]=>none
 |y::l=>match lastS p l with
  |some z=>some z
  |none=>if y.pl=p then some y else none
def lowS:List Sn→Int
 |[]=>0
 |[y]=>y.pl
 |y::l=>min y.pl (lowS l)
structure IS where
 e:Int
 held:List Sn
 passed:List Sn
 out:List Vd
def setT (l:List Vd) (i time:Int):List Vd:=match l[i.toNat]? with
 |some v=>l.set i.toNat ⟨v.kind,time⟩
 |none=>l
def setK (l:List Vd) (i kind:Int):List Vd:=match l[i.toNat]? with
 |some v=>l.set i.toNat ⟨kind,v.time⟩
 |none=>l
def IS.pass (t:IS) (y:Sn) (time:Int):IS:=⟨t.e,t.held,t.passed ++ [y],setT t.out y.num time⟩
def IS.followF:Nat→IS→Int→IS
 |0,t,_=>t
 |n+1,t,time=>match findS t.e t.held with
  |some y=>IS.followF n ⟨t.e+1,delS t.e t.held,t.passed ++ [y],setT t.out y.num time⟩ time
  |none=>t
def IS.follow (t:IS) (time:Int):IS:=t.followF t.held.length time
def tmAt (l:List Arr) (i:Int):Int:=match l[i.toNat]? with
 |some a=>a.time
 |none=>0
def IS.giveF (l:List Arr) (hold:Int):Nat→IS→Int→IS
 |0,t,_=>t
 |n+1,t,time=>match t.held with
  |[]=>t
  |y::r=>if time < tmAt l y.num+hold then t else IS.giveF l hold n (IS.follow ⟨lowS (y::r),t.held,t.passed,t.out⟩ (tmAt l y.num+hold)) time
def IS.give (l:List Arr) (hold:Int) (t:IS) (time:Int):IS:=IS.giveF l hold t.held.length t time
def placeN (s:Ser) (e n:Int):Int:=e+sizeN s / 2 - (e+sizeN s / 2 - (n - s.first)) % sizeN s
def digAt (l:List Arr) (i:Int):Str:=match l[i.toNat]? with
 |some a=>a.dig
 |none => []
def alikeK (l:List Arr) (d:Str) (z:Sn):Int:=if d=digAt l z.num then 2 else 3
def IS.take (s:Ser) (l:List Arr) (t:IS) (i:Int) (a:Arr):IS:=
 if placeN s t.e a.num=t.e then IS.follow ⟨t.e+1,t.held,t.passed ++ [⟨i,t.e⟩],setT (setK t.out i 1) i a.time⟩ a.time
 else if t.e < placeN s t.e a.num then match findS (placeN s t.e a.num) t.held with
  |some z=>⟨t.e,t.held,t.passed,setK t.out i (alikeK l a.dig z)⟩
  |none=>⟨t.e,t.held ++ [⟨i,placeN s t.e a.num⟩],t.passed,setK t.out i 4⟩
 else match lastS (placeN s t.e a.num) t.passed with
  |some z=>⟨t.e,t.held,t.passed,setK t.out i (alikeK l a.dig z)⟩
  |none=>⟨t.e,t.held,t.passed ++ [⟨i,placeN s t.e a.num⟩],setT (setK t.out i 5) i a.time⟩
def IS.come (s:Ser) (hold:Int) (l:List Arr) (t:IS) (i:Int) (a:Arr):IS:=
 IS.take s l (IS.give l hold ⟨t.e,t.held,t.passed,t.out ++ [⟨0,-1⟩]⟩ a.time) i a
def comeN (s:Ser) (hold:Int) (l:List Arr):Nat→IS
 |0=>⟨0,[],[],[]⟩
 |k+1=>match l[k]? with
  |some a=>(comeN s hold l k).come s hold l k a
  |none=>comeN s hold l k
def upto (time:Int):List Arr→Nat
 |[]=>0
 |a::l=>if a.time≤time then upto time l+1 else 0
def runN (s:Ser) (hold:Int) (l:List Arr) (time:Int):IS:=IS.give l hold (comeN s hold l (upto time l)) time
/-! Following. -/
theorem findS_at {p:Int}:∀ {l:List Sn} {y:Sn},findS p l=some y→y.pl=p∧y ∈ l∧(delS p l).length+1=l.length
 |x::l,y,h=>by
  unfold findS at h
  split at h
  ·cases h
   rename_i h
   refine ⟨h,by simp,?_⟩
   rw [delS,if_pos h,List.length_cons]
  ·rename_i hx
   obtain ⟨h1,h2,h3⟩:=findS_at h
   refine ⟨h1,by simp [h2],?_⟩
   rw [delS,if_neg hx,List.length_cons,List.length_cons,h3]
theorem findS_none {p:Int}:∀ {l:List Sn},findS p l=none→∀ y ∈ l,y.pl ≠ p
 |[],_,y,hy=>by simp at hy
 |x::l,h,y,hy=>by
  unfold findS at h
  split at h
  ·cases h
  ·rename_i hx
   rcases List.mem_cons.1 hy with rfl|hy
   ·exact hx
   ·exact findS_none h y hy
theorem delS_sub {p:Int}:∀ {l:List Sn},(delS p l).Sublist l
 |[]=>by simp [delS]
 |x::l=>by
  unfold delS
  split
  ·exact List.sublist_cons_self x l
  ·exact (delS_sub (l:=l)).cons_cons x
theorem delS_ne {p:Int}:∀ {l:List Sn},l.Pairwise (fun a b=>a.pl ≠ b.pl)→∀ y ∈ delS p l,y.pl ≠ p
 |[],_,y,hy=>by simp [delS] at hy
 |x::l,h,y,hy=>by
  unfold delS at hy
  rw [List.pairwise_cons] at h
  split at hy
  ·rename_i hx
   exact fun e=>h.1 y hy (hx.trans e.symm)
  ·rename_i hx
   rcases List.mem_cons.1 hy with rfl|hy
   ·exact hx
   ·exact delS_ne h.2 y hy
theorem follow_none {t:IS} {time:Int} (h:findS t.e t.held=none):t.follow time=t:=by
 unfold IS.follow
 cases t.held.length with
 |zero=>rfl
 |succ n=>rw [IS.followF,h]
theorem follow_some {t:IS} {time:Int} {y:Sn} (h:findS t.e t.held=some y):t.follow time=IS.follow ⟨t.e+1,delS t.e t.held,t.passed ++ [y],setT t.out y.num time⟩ time:=by
 have h1:=(findS_at h).2.2
 unfold IS.follow
 rw [← h1,IS.followF,h]
structure IS.Mid (k:Nat) (M:Int) (t:IS):Prop where
 nums:∀ y ∈ t.held,0≤y.num∧y.num < k
 pnums:∀ y ∈ t.passed,0≤y.num∧y.num < k
 inc:t.held.Pairwise fun a b=>a.num < b.num
 dist:t.held.Pairwise fun a b=>a.pl ≠ b.pl
 ge:∀ y ∈ t.held,t.e≤y.pl
 le:∀ y ∈ t.held,y.pl≤M
 lo:0≤t.e
 hi:t.e≤M+1
 few:t.held.length+t.passed.length≤k
 out:t.out.length=k
structure IS.Ok (k:Nat) (M:Int) (t:IS):Prop extends IS.Mid k M t where
 gt:∀ y ∈ t.held,t.e < y.pl
theorem setT_len (l:List Vd) (i time:Int):(setT l i time).length=l.length:=by
 unfold setT;split<;>simp
theorem setK_len (l:List Vd) (i kind:Int):(setK l i kind).length=l.length:=by
 unfold setK;split<;>simp
theorem IS.Mid.pop {k:Nat} {M:Int} {t:IS} {time:Int} {y:Sn} (h:t.Mid k M) (hy:findS t.e t.held=some y):IS.Mid k M ⟨t.e+1,delS t.e t.held,t.passed ++ [y],setT t.out y.num time⟩:=by
 obtain ⟨h1,h2,h3⟩:=findS_at hy
 have hs:=delS_sub (p:=t.e) (l:=t.held)
 have hle:=h.le y h2
 refine ⟨fun z hz=>h.nums z (hs.subset hz),fun z hz => ?_,h.inc.sublist hs,h.dist.sublist hs,fun z hz => ?_,fun z hz=>h.le z (hs.subset hz),?_,?_,?_,?_⟩
 ·rcases List.mem_append.1 hz with hz|hz
  ·exact h.pnums z hz
  ·simp only [List.mem_singleton] at hz
   subst hz
   exact h.nums z h2
 ·have:=h.ge z (hs.subset hz)
  have:=delS_ne h.dist z hz
  dsimp only
  omega
 ·have:=h.lo
  dsimp only
  omega
 ·dsimp only
  omega
 ·have:=h.few
  simp only [List.length_append,List.length_singleton]
  omega
 ·rw [setT_len];exact h.out
theorem IS.Mid.follow {k:Nat} {M:Int} (time:Int):∀ (n:Nat) {t:IS},t.held.length=n→t.Mid k M→(t.follow time).Ok k M∧(t.follow time).held.length≤n∧(∀ y,findS t.e t.held=some y→(t.follow time).held.length < n)
 |n,t,hn,h=>by
  cases hy:findS t.e t.held with
  |none=>
   rw [follow_none hy]
   refine ⟨⟨h,fun z hz => ?_⟩,Nat.le_of_eq hn,fun y e=>by cases e⟩
   have:=h.ge z hz
   have:=findS_none hy z hz
   omega
  |some y=>
   have h3:=(findS_at hy).2.2
   rw [follow_some hy]
   obtain ⟨g1,g2,_⟩:=IS.Mid.follow time (delS t.e t.held).length (t:=⟨t.e+1,delS t.e t.held,t.passed ++ [y],setT t.out y.num time⟩) rfl (h.pop hy)
   exact ⟨g1,by omega,fun _ _=>by omega⟩
termination_by n=>n
decreasing_by have h3:=(findS_at hy).2.2;omega
/-! Giving up. -/
theorem lowS_mem:∀ {l:List Sn},l ≠ []→(∃ y ∈ l,y.pl=lowS l)∧∀ y ∈ l,lowS l≤y.pl
 |[y],_=>⟨⟨y,by simp,rfl⟩,fun z hz=>by simp at hz;subst hz;exact Int.le_refl _⟩
 |y::z::l,_=>by
  obtain ⟨⟨u,hu,hu2⟩,h2⟩:=lowS_mem (l:=z::l) (by simp)
  rw [lowS]
  ·refine ⟨?_,fun v hv => ?_⟩
   ·rcases Int.le_total y.pl (lowS (z::l)) with h|h
    ·exact ⟨y,by simp,by omega⟩
    ·exact ⟨u,by simp at hu ⊢;exact .inr hu,by omega⟩
   ·rcases List.mem_cons.1 hv with rfl|hv
    ·omega
    ·have:=h2 v hv;omega
  ·simp
theorem findS_low {l:List Sn} (h:l ≠ []):∃ y,findS (lowS l) l=some y:=by
 cases hf:findS (lowS l) l with
 |some y=>exact ⟨y,rfl⟩
 |none=>
  obtain ⟨⟨y,h1,h2⟩,_⟩:=lowS_mem h
  exact absurd h2 (findS_none hf y h1)
theorem IS.Ok.low {k:Nat} {M:Int} {t:IS} (h:t.Ok k M) (hne:t.held ≠ []):IS.Mid k M ⟨lowS t.held,t.held,t.passed,t.out⟩:=by
 obtain ⟨⟨y,h1,h2⟩,h3⟩:=lowS_mem hne
 have h4:=h.gt y h1
 have h5:=h.le y h1
 have h6:=h.lo
 exact ⟨h.nums,h.pnums,h.inc,h.dist,h3,h.le,by dsimp only;omega,by dsimp only;omega,h.few,h.out⟩
theorem give_nil {l:List Arr} {hold:Int} {t:IS} {time:Int} (h:t.held = []):t.give l hold time=t:=by
 unfold IS.give
 rw [h]
 rfl
theorem give_stop {l:List Arr} {hold:Int} {t:IS} {time:Int} {y:Sn} {r:List Sn} (h:t.held=y::r) (ht:time < tmAt l y.num+hold):t.give l hold time=t:=by
 unfold IS.give
 rw [h,List.length_cons,IS.giveF,h]
 exact if_pos ht
theorem giveF_more {l:List Arr} {hold:Int} {k:Nat} {M:Int} {time:Int}:∀ (n m:Nat) {t:IS},t.Ok k M→t.held.length≤n→t.held.length≤m→IS.giveF l hold n t time=IS.giveF l hold m t time
 |0,0,_,_,_,_=>rfl
 |0,m+1,t,_,h,_=>by
  have:t.held = []:=List.length_eq_zero_iff.1 (by omega)
  rw [IS.giveF,IS.giveF,this]
 |n+1,0,t,_,_,h=>by
  have:t.held = []:=List.length_eq_zero_iff.1 (by omega)
  rw [IS.giveF,IS.giveF,this]
 |n+1,m+1,t,hk,h1,h2=>by
  rw [IS.giveF,IS.giveF]
  cases hh:t.held with
  |nil=>rfl
  |cons y r=>
   dsimp only
   split
   ·rfl
   ·have hne:t.held ≠ []:=by rw [hh];simp
    obtain ⟨z,hz⟩:=findS_low hne
    obtain ⟨g1,_,g3⟩:=IS.Mid.follow (tmAt l y.num+hold) t.held.length (t:=⟨lowS t.held,t.held,t.passed,t.out⟩) rfl (hk.low hne)
    have g3:=g3 z hz
    rw [← hh]
    exact giveF_more n m g1 (by omega) (by omega)
theorem give_go {l:List Arr} {hold:Int} {k:Nat} {M:Int} {t:IS} {time:Int} {y:Sn} {r:List Sn} (hk:t.Ok k M) (h:t.held=y::r) (ht:tmAt l y.num+hold≤time):
  t.give l hold time=IS.give l hold (IS.follow ⟨lowS t.held,t.held,t.passed,t.out⟩ (tmAt l y.num+hold)) time∧(IS.follow ⟨lowS t.held,t.held,t.passed,t.out⟩ (tmAt l y.num+hold)).Ok k M∧(IS.follow ⟨lowS t.held,t.held,t.passed,t.out⟩ (tmAt l y.num+hold)).held.length < t.held.length:=by
 have hne:t.held ≠ []:=by rw [h];simp
 obtain ⟨z,hz⟩:=findS_low hne
 obtain ⟨g1,_,g3⟩:=IS.Mid.follow (tmAt l y.num+hold) t.held.length (t:=⟨lowS t.held,t.held,t.passed,t.out⟩) rfl (hk.low hne)
 have g3:=g3 z hz
 refine ⟨?_,g1,g3⟩
 have e:t.give l hold time=IS.giveF l hold (r.length+1) t time:=by unfold IS.give;rw [h,List.length_cons]
 rw [e,IS.giveF,h]
 dsimp only
 rw [if_neg (by omega),← h]
 unfold IS.give
 have:t.held.length=r.length+1:=by rw [h,List.length_cons]
 exact giveF_more _ _ g1 (by omega) (Nat.le_refl _)
theorem IS.Ok.give {l:List Arr} {hold:Int} {k:Nat} {M:Int} (time:Int):∀ (n:Nat) {t:IS},t.held.length=n→t.Ok k M→(t.give l hold time).Ok k M
 |n,t,hn,h=>by
  cases hh:t.held with
  |nil=>rw [give_nil hh];exact h
  |cons y r=>
   by_cases ht:time < tmAt l y.num+hold
   ·rw [give_stop hh ht];exact h
   ·obtain ⟨g1,g2,g3⟩:=give_go (l:=l) (hold:=hold) (time:=time) h hh (by omega)
    rw [g1]
    exact IS.Ok.give time _ rfl g2
termination_by n=>n
decreasing_by omega
/-! What the maps of the program say. -/
def plV (l:List Sn):List (Value × Value):=l.map fun y=>(.int .i64 y.pl,.int .i64 y.num)
def laV (l:List Sn):List (Value × Value):=l.foldl (fun m y=>putV (.int .i64 y.pl) (.int .i64 y.num) m) []
theorem keyEq_i64 (a b:Int):keyEq (.int .i64 a) (.int .i64 b)=decide (a=b):=by
 by_cases h:a=b
 ·subst h
  rw [decide_eq_true rfl]
  exact keyEq_self (kd:=.int .i64) rfl
 ·rw [decide_eq_false h]
  cases hk:keyEq (.int .i64 a) (.int .i64 b) with
  |false=>rfl
  |true=>
   have:=keyEq_eq (kd:=.int .i64) rfl rfl hk
   cases this
   exact absurd rfl h
theorem find_plV (p:Int):∀ l:List Sn,findV (.int .i64 p) (plV l)=(findS p l).map fun y=>.int .i64 y.num
 |[]=>rfl
 |y::l=>by
  show (match keyEq (.int .i64 p) (.int .i64 y.pl) with
   |true=>_
   | false=>_)=_
  rw [keyEq_i64,findS]
  by_cases h:y.pl=p
  ·rw [if_pos h,decide_eq_true h.symm];rfl
  ·rw [if_neg h,decide_eq_false (Ne.symm h)]
   exact find_plV p l
theorem del_plV (p:Int):∀ l:List Sn,delV (.int .i64 p) (plV l)=plV (delS p l)
 |[]=>rfl
 |y::l=>by
  show (match keyEq (.int .i64 p) (.int .i64 y.pl) with
   |true=>_
   | false=>_)=_
  rw [keyEq_i64,delS]
  by_cases h:y.pl=p
  ·rw [if_pos h,decide_eq_true h.symm];rfl
  ·rw [if_neg h,decide_eq_false (Ne.symm h)]
   show _::delV _ (plV l)=_
   rw [del_plV p l]
   rfl
theorem put_plV (p n:Int):∀ {l:List Sn},findS p l=none→putV (.int .i64 p) (.int .i64 n) (plV l)=plV (l ++ [⟨n,p⟩])
 |[],_=>rfl
 |y::l,hn=>by
  show (match keyEq (.int .i64 p) (.int .i64 y.pl) with
   |true=>_
   | false=>_)=_
  rw [keyEq_i64]
  unfold findS at hn
  split at hn
  ·cases hn
  ·rename_i h
   rw [decide_eq_false (Ne.symm h)]
   show _::putV _ _ (plV l)=_
   rw [put_plV p n hn]
   rfl
theorem put_laV (l:List Sn) (y:Sn):putV (.int .i64 y.pl) (.int .i64 y.num) (laV l)=laV (l ++ [y]):=by
 unfold laV
 rw [List.foldl_append]
 rfl
theorem find_put (p q n:Int):∀ m:List (Value × Value),(∀ x ∈ m,fitK (.int .i64) x.1=true)→findV (.int .i64 p) (putV (.int .i64 q) (.int .i64 n) m)=if q=p then some (.int .i64 n) else findV (.int .i64 p) m
 |[],_=>by
  show (match keyEq (.int .i64 p) (.int .i64 q) with
   |true=>_
   | false=>_)=_
  rw [keyEq_i64]
  by_cases h:q=p
  ·rw [if_pos h,decide_eq_true h.symm]
  ·rw [if_neg h,decide_eq_false (Ne.symm h)]
 |(k,v)::m,hm=>by
  have hk:=hm (k,v) (by simp)
  cases k with
  |int kk x=>
   obtain rfl:IntKind.i64=kk:=sameK_eq hk
   have ih:=find_put p q n m fun x hx=>hm x (by simp [hx])
   rw [putV,keyEq_i64]
   by_cases h:q=x
   ·subst h
    rw [decide_eq_true rfl]
    dsimp only
    rw [findV,findV,keyEq_i64]
    by_cases h:q=p
    ·rw [if_pos h,decide_eq_true h.symm]
    ·rw [if_neg h,decide_eq_false (Ne.symm h)]
   ·rw [decide_eq_false h]
    dsimp only
    rw [findV,findV,keyEq_i64]
    by_cases h2:p=x
    ·rw [decide_eq_true h2]
     dsimp only
     rw [if_neg (by omega)]
    ·rw [decide_eq_false h2]
     exact ih
  |_=>cases hk
theorem laV_fit (l:List Sn):∀ x ∈ laV l,fitK (.int .i64) x.1=true:=by
 have:∀ (l:List Sn) (m:List (Value × Value)),(∀ x ∈ m,fitK (.int .i64) x.1=true)→∀ x ∈ l.foldl (fun m y=>putV (.int .i64 y.pl) (.int .i64 y.num) m) m,fitK (.int .i64) x.1=true:=by
  intro l
  induction l with
  |nil=>exact fun m h=>h
  |cons y l ih=>exact fun m h=>ih _ (putV_fit rfl h)
 exact this l [] fun x hx=>by simp at hx
theorem lastS_snoc (p:Int) (y:Sn):∀ l:List Sn,lastS p (l ++ [y])=if y.pl=p then some y else lastS p l
 |[]=>by simp [lastS]
 |z::l=>by
  rw [List.cons_append,lastS,lastS_snoc p y l,lastS]
  by_cases h:y.pl=p
  ·simp [h]
  ·simp only [if_neg h]
theorem snoc_ind {α:Type} {q:List α→Prop} (h0:q []) (h1:∀ l a,q l→q (l ++ [a])) (l:List α):q l:=by
 have:∀ n (l:List α),l.length=n→q l:=by
  intro n
  induction n with
  |zero=>intro l hl;rw [List.length_eq_zero_iff.1 hl];exact h0
  |succ n ih=>
   intro l hl
   have hne:l ≠ []:=fun e=>by subst e;simp at hl
   rw [← List.dropLast_concat_getLast hne]
   exact h1 _ _ (ih _ (by simp [hl]))
 exact this _ l rfl
theorem find_laV (p:Int) (l:List Sn):findV (.int .i64 p) (laV l)=(lastS p l).map fun y=>.int .i64 y.num:=by
 induction l using snoc_ind with
 |h0=>rfl
 |h1 l y ih=>
  rw [← put_laV,find_put p y.pl y.num _ (laV_fit l),lastS_snoc,ih]
  by_cases h:y.pl=p
  ·rw [if_pos h,if_pos h];rfl
  ·rw [if_neg h,if_neg h]
/-! Places. -/
theorem place_eq (s:Ser) (e n:Int) (hs:0 < sizeN s) (hn:s.first≤n∧n≤s.last):
  placeN s e n=e+(if sizeN s / 2 < betweenN s (s.first+e % sizeN s) n then betweenN s (s.first+e % sizeN s) n - sizeN s else betweenN s (s.first+e % sizeN s) n):=by
 have h0:=Int.emod_nonneg e (show sizeN s ≠ 0 by omega)
 have h1:=Int.emod_lt_of_pos e hs
 have hsz:sizeN s=s.last - s.first+1:=rfl
 unfold betweenN placeN
 generalize sizeN s=z at *
 have hq:=Int.mul_ediv_add_emod e z
 generalize e % z=r at *
 generalize e / z=q at *
 generalize hh:z / 2=hf
 have hhf:2 * hf≤z∧z≤2 * hf+1:=by omega
 clear hh
 have hk:(n - (s.first+r)+z) % z=if n - s.first < r then n - s.first - r+z else n - s.first - r:=by
  split
  ·rw [Int.emod_eq_of_lt (by omega) (by omega)];omega
  ·rw [show n - (s.first+r)+z=n - (s.first+r)+z * 1 by omega,Int.add_mul_emod_self_left,Int.emod_eq_of_lt (by omega) (by omega)];omega
 rw [hk]
 generalize hm:n - s.first=m at *
 have key:∀ c v:Int,e+hf - m=z * c+v→0≤v→v < z→(e+hf - m) % z=v:=fun c v h3 h4 h5=>by
  rw [h3,Int.mul_add_emod_self_left,Int.emod_eq_of_lt h4 h5]
 have hz1:z * (q+1)=z * q+z:=by rw [Int.mul_add,Int.mul_one]
 have hz2:z * (q - 1)=z * q - z:=by rw [Int.mul_sub,Int.mul_one]
 by_cases h2:m < r
 ·rw [if_pos h2]
  by_cases h3:hf < m - r+z
  ·rw [if_pos h3,key q (r+hf - m) (by omega) (by omega) (by omega)]
   omega
  ·rw [if_neg h3,key (q+1) (r+hf - m - z) (by omega) (by omega) (by omega)]
   omega
 ·rw [if_neg h2]
  by_cases h3:hf < m - r
  ·rw [if_pos h3,key (q - 1) (r+hf - m+z) (by omega) (by omega) (by omega)]
   omega
  ·rw [if_neg h3,key q (r+hf - m) (by omega) (by omega) (by omega)]
   omega
theorem place_bd (s:Ser) (e n:Int) (hs:0 < sizeN s):e - sizeN s≤placeN s e n∧placeN s e n≤e+sizeN s:=by
 unfold placeN
 have h0:=Int.emod_nonneg (e+sizeN s / 2 - (n - s.first)) (show sizeN s ≠ 0 by omega)
 have h1:=Int.emod_lt_of_pos (e+sizeN s / 2 - (n - s.first)) hs
 omega
/-! What has come keeps its form. -/
theorem IS.Ok.more {k:Nat} {M:Int} {t:IS} (h:t.Ok k M):IS.Ok (k+1) M ⟨t.e,t.held,t.passed,t.out ++ [⟨0,-1⟩]⟩:=
 ⟨⟨fun y hy=>by have:=h.nums y hy;omega,fun y hy=>by have:=h.pnums y hy;omega,h.inc,h.dist,h.ge,h.le,h.lo,h.hi,Nat.le_succ_of_le h.few,by simp [h.out]⟩,h.gt⟩
structure IS.Pre (k:Nat) (M:Int) (t:IS):Prop where
 ok:IS.Ok (k+1) M t
 nums:∀ y ∈ t.held,y.num < k
 pnums:∀ y ∈ t.passed,y.num < k
 few:t.held.length+t.passed.length≤k
theorem IS.Pre.take {s:Ser} {l:List Arr} {k:Nat} {M:Int} {t:IS} {a:Arr} (h:t.Pre k M) (hM:0≤M) (hs:0 < sizeN s) (hs2:sizeN s≤1000000000000000):(t.take s l k a).Ok (k+1) (M+1000000000000002):=by
 obtain ⟨p1,p2⟩:=place_bd s t.e a.num hs
 have hlo:=h.ok.lo
 have hhi:=h.ok.hi
 have grow:∀ {t:IS},t.Ok (k+1) M→t.Ok (k+1) (M+1000000000000002):=fun h=>⟨⟨h.nums,h.pnums,h.inc,h.dist,h.ge,fun y hy=>by have:=h.le y hy;omega,by have:=h.lo;omega,by have:=h.hi;omega,h.few,h.out⟩,h.gt⟩
 have hsn:∀ y ∈ t.passed ++ [(⟨k,placeN s t.e a.num⟩:Sn)],0≤y.num∧y.num < (k+1:Nat):=fun y hy=>by
  rcases List.mem_append.1 hy with hy|hy
  ·exact h.ok.pnums y hy
  ·simp only [List.mem_singleton] at hy
   subst hy
   dsimp only
   omega
 unfold IS.take
 split
 ·rename_i he
  rw [he] at hsn
  refine (IS.Mid.follow a.time _ rfl ?_).1
  refine ⟨h.ok.nums,hsn,h.ok.inc,h.ok.dist,fun y hy=>by have:=h.ok.gt y hy;dsimp only;omega,fun y hy=>by have:=h.ok.le y hy;omega,by dsimp only;omega,by dsimp only;omega,?_,by rw [setT_len,setK_len];exact h.ok.out⟩
  have:=h.few
  simp only [List.length_append,List.length_singleton]
  omega
 ·split
  ·rename_i hlt
   split
   ·exact grow ⟨⟨h.ok.nums,h.ok.pnums,h.ok.inc,h.ok.dist,h.ok.ge,h.ok.le,h.ok.lo,h.ok.hi,h.ok.few,by rw [setK_len];exact h.ok.out⟩,h.ok.gt⟩
   ·rename_i hf
    have hin:∀ {q:Sn→Prop},(∀ y ∈ t.held,q y)→q ⟨k,placeN s t.e a.num⟩→∀ y ∈ t.held ++ [(⟨k,placeN s t.e a.num⟩:Sn)],q y:=fun h1 h2 y hy=>by
     rcases List.mem_append.1 hy with hy|hy
     ·exact h1 y hy
     ·simp only [List.mem_singleton] at hy
      subst hy
      exact h2
    refine ⟨⟨hin h.ok.nums (by dsimp only;omega),h.ok.pnums,List.pairwise_append.2 ⟨h.ok.inc,by simp,fun x hx y hy => ?_⟩,List.pairwise_append.2 ⟨h.ok.dist,by simp,fun x hx y hy => ?_⟩,hin h.ok.ge (by dsimp only;omega),hin (fun y hy=>by have:=h.ok.le y hy;omega) (by dsimp only;omega),by dsimp only;omega,by dsimp only;omega,?_,by rw [setK_len];exact h.ok.out⟩,hin h.ok.gt hlt⟩
    ·simp only [List.mem_singleton] at hy
     subst hy
     exact h.nums x hx
    ·simp only [List.mem_singleton] at hy
     subst hy
     exact findS_none hf x hx
    ·have:=h.few
     simp only [List.length_append,List.length_singleton]
     omega
  ·split
   ·exact grow ⟨⟨h.ok.nums,h.ok.pnums,h.ok.inc,h.ok.dist,h.ok.ge,h.ok.le,h.ok.lo,h.ok.hi,h.ok.few,by rw [setK_len];exact h.ok.out⟩,h.ok.gt⟩
   ·refine grow ⟨⟨h.ok.nums,hsn,h.ok.inc,h.ok.dist,h.ok.ge,h.ok.le,h.ok.lo,h.ok.hi,?_,by rw [setT_len,setK_len];exact h.ok.out⟩,h.ok.gt⟩
    have:=h.few
    simp only [List.length_append,List.length_singleton]
    omega
theorem setT_app (l m:List Vd) (i time:Int) (h0:0≤i) (h:i < l.length):setT (l++m) i time=setT l i time++m:=by
 unfold setT
 rw [List.getElem?_append_left (by omega),List.getElem?_eq_getElem (by omega)]
 simp only []
 rw [List.set_append_left _ _ (by omega)]
def IS.ext (t:IS) (m:List Vd):IS:=⟨t.e,t.held,t.passed,t.out++m⟩
theorem follow_ext (m:List Vd) (time:Int) {k:Nat} {M:Int}:∀ (n:Nat) {t:IS},t.held.length=n→t.Mid k M→(t.ext m).follow time=(t.follow time).ext m
 |n,t,hn,h=>by
  cases hy:findS t.e t.held with
  |none=>rw [follow_none (t:=t.ext m) hy,follow_none hy]
  |some y=>
   have h3:=(findS_at hy).2.2
   have hyn:=h.nums y (findS_at hy).2.1
   have ih:=follow_ext m time (delS t.e t.held).length (t:=⟨t.e+1,delS t.e t.held,t.passed ++ [y],setT t.out y.num time⟩) rfl (h.pop hy)
   rw [follow_some hy,← ih,follow_some (t:=t.ext m) (y:=y) hy]
   congr 1
   show IS.mk _ _ _ (setT (t.out++m) y.num time)=IS.mk _ _ _ (setT t.out y.num time++m)
   rw [setT_app _ _ _ _ hyn.1 (by rw [h.out];exact hyn.2)]
   rfl
termination_by n=>n
decreasing_by have h3:=(findS_at hy).2.2;omega
theorem give_ext {l:List Arr} {hold:Int} (m:List Vd) (time:Int) {k:Nat} {M:Int} (hok:∀ {t:IS},t.Ok k M→∃ k' M',(t.ext m).Ok k' M'):∀ (n:Nat) {t:IS},t.held.length=n→t.Ok k M→(t.ext m).give l hold time=(t.give l hold time).ext m
 |n,t,hn,h=>by
  cases hh:t.held with
  |nil=>rw [give_nil (t:=t.ext m) hh,give_nil hh]
  |cons y r=>
   by_cases ht:time < tmAt l y.num+hold
   ·rw [give_stop (t:=t.ext m) hh ht,give_stop hh ht]
   ·obtain ⟨k',M',hk'⟩:=hok h
    obtain ⟨g1,g2,g3⟩:=give_go (l:=l) (hold:=hold) (time:=time) h hh (by omega)
    obtain ⟨f1,_,_⟩:=give_go (t:=t.ext m) (l:=l) (hold:=hold) (time:=time) hk' hh (by omega)
    have hne:t.held ≠ []:=by rw [hh];simp
    have e:IS.follow ⟨lowS (t.ext m).held,(t.ext m).held,(t.ext m).passed,(t.ext m).out⟩ (tmAt l y.num+hold)=(IS.follow ⟨lowS t.held,t.held,t.passed,t.out⟩ (tmAt l y.num+hold)).ext m:=follow_ext m _ _ rfl (h.low hne)
    rw [f1,g1,e]
    exact give_ext m time hok _ rfl g2
termination_by n=>n
decreasing_by omega
theorem ext_ok {k:Nat} {M:Int} (m:List Vd) {t:IS} (h:t.Ok k M):(t.ext m).Ok (k+m.length) M:=
 ⟨⟨fun y hy=>by have:=h.nums y hy;omega,fun y hy=>by have:=h.pnums y hy;omega,h.inc,h.dist,h.ge,h.le,h.lo,h.hi,Nat.le_trans h.few (by omega),by simp [IS.ext,h.out]⟩,h.gt⟩
theorem give_tail {l:List Arr} {hold:Int} (m:List Vd) (time:Int) {k:Nat} {M:Int} {t:IS} (h:t.Ok k M):(t.ext m).give l hold time=(t.give l hold time).ext m:=
 give_ext m time (fun h=>⟨_,_,ext_ok m h⟩) _ rfl h
theorem follow_tail (m:List Vd) (time:Int) {k:Nat} {M:Int} {t:IS} (h:t.Mid k M):(t.ext m).follow time=(t.follow time).ext m:=follow_ext m time _ rfl h
def preN (s:Ser) (hold:Int) (l:List Arr) (k:Nat) (a:Arr):IS:=IS.give l hold (comeN s hold l k) a.time
theorem come_pre {s:Ser} {hold:Int} {l:List Arr} {k:Nat} {a:Arr} {M:Int} (hk:l[k]?=some a) (h:(comeN s hold l k).Ok k M):
  comeN s hold l (k+1)=((preN s hold l k a).ext [⟨0,-1⟩]).take s l k a∧(preN s hold l k a).Ok k M∧((preN s hold l k a).ext [⟨0,-1⟩]).Pre k M:=by
 have g:=IS.Ok.give (l:=l) (hold:=hold) a.time _ rfl h
 refine ⟨?_,g,⟨ext_ok [_] g,fun y hy=>(g.nums y hy).2,fun y hy=>(g.pnums y hy).2,g.few⟩⟩
 rw [comeN,hk]
 show IS.take s l (IS.give l hold ((comeN s hold l k).ext [⟨0,-1⟩]) a.time) k a=_
 rw [give_tail _ _ h]
 rfl
theorem comeN_ok {s:Ser} {hold:Int} {l:List Arr} (hs:0 < sizeN s) (hs2:sizeN s≤1000000000000000):∀ k,k≤l.length→(comeN s hold l k).Ok k (k * 1000000000000002)
 |0,_=>⟨⟨fun y hy=>by simp [comeN] at hy,fun y hy=>by simp [comeN] at hy,by simp [comeN],by simp [comeN],fun y hy=>by simp [comeN] at hy,fun y hy=>by simp [comeN] at hy,by simp [comeN],by simp [comeN],by simp [comeN],by simp [comeN]⟩,fun y hy=>by simp [comeN] at hy⟩
 |k+1,hk=>by
  have ih:=comeN_ok (s:=s) (hold:=hold) (l:=l) hs hs2 k (by omega)
  obtain ⟨a,ha⟩:∃ a,l[k]?=some a:=⟨_,List.getElem?_eq_getElem hk⟩
  obtain ⟨h1,_,h3⟩:=come_pre ha ih
  rw [h1]
  have:=h3.take (s:=s) (l:=l) (a:=a) (by omega) hs hs2
  rw [show ((k+1:Nat):Int) * 1000000000000002=(k:Int) * 1000000000000002+1000000000000002 by omega]
  exact this
theorem upto_le (time:Int):∀ l:List Arr,upto time l≤l.length
 |[]=>Nat.le_refl _
 |a::l=>by
  have:=upto_le time l
  rw [upto]
  split
  ·rw [List.length_cons];omega
  ·omega
theorem upto_at {time:Int}:∀ {l:List Arr} {p:Option Int},arrs p l=0→∀ {k:Nat} {a:Arr},l[k]?=some a→(a.time≤time↔k < upto time l)
 |b::l,p,h,k,a,hk=>by
  unfold arrs at h
  split at h
  ·omega
  ·have low:∀ {l:List Arr} {q:Int},arrs (some q) l=0→∀ {k:Nat} {a:Arr},l[k]?=some a→q≤a.time:=by
    intro l
    induction l with
    |nil=>intro q _ k a hk;simp at hk
    |cons c l ih=>
     intro q h k a hk
     unfold arrs at h
     split at h
     ·omega
     ·rename_i h1
      have hc:q≤c.time:=by
       unfold arrF at h1
       split at h1
       ·omega
       ·split at h1
        ·omega
        ·dsimp only at h1
         split at h1<;>omega
      cases k with
      |zero=>cases hk;exact hc
      |succ k=>exact Int.le_trans hc (ih h (by simpa using hk))
   rw [upto]
   cases k with
   |zero=>
    cases hk
    split
    ·exact ⟨fun _=>by omega,fun _=>by assumption⟩
    ·exact ⟨fun h=>by contradiction,fun h=>by omega⟩
   |succ k=>
    have hk:l[k]?=some a:=by simpa using hk
    split
    ·have:=upto_at (time:=time) h hk
     omega
    ·have:=low h hk
     omega
def vdAt (l:List Vd) (i:Int):Option Vd:=l[i.toNat]?
theorem setT_get (l:List Vd) (i j time:Int):vdAt (setT l i time) j=if i.toNat=j.toNat then (vdAt l j).map fun v=>⟨v.kind,time⟩ else vdAt l j:=by
 unfold setT vdAt
 split
 ·rename_i v hv
  rw [List.getElem?_set]
  split
  ·rename_i e
   rw [← e,hv,if_pos (gLt hv)]
   rfl
  ·rfl
 ·rename_i hn
  split
  ·rename_i e
   rw [← e,hn]
   rfl
  ·rfl
theorem setK_get (l:List Vd) (i j kind:Int):vdAt (setK l i kind) j=if i.toNat=j.toNat then (vdAt l j).map fun v=>⟨kind,v.time⟩ else vdAt l j:=by
 unfold setK vdAt
 split
 ·rename_i v hv
  rw [List.getElem?_set]
  split
  ·rename_i e
   rw [← e,hv,if_pos (gLt hv)]
   rfl
  ·rfl
 ·rename_i hn
  split
  ·rename_i e
   rw [← e,hn]
   rfl
  ·rfl
theorem delS_perm {p:Int}:∀ {l:List Sn} {y:Sn},findS p l=some y→l.Perm (y::delS p l)
 |x::l,y,h=>by
  unfold findS at h
  split at h
  ·cases h
   rename_i hx
   rw [delS,if_pos hx]
  ·rename_i hx
   rw [delS,if_neg hx]
   exact ((delS_perm h).cons x).trans (List.Perm.swap y x _)
def Done (hold T:Int) (a:Arr) (v:Vd):Prop:=0≤v.time∧v.time≤T∧((v.kind=1∨v.kind=5)∧v.time=a.time∨v.kind=4∧a.time≤v.time∧v.time≤a.time+hold)
theorem Done.mono {hold T T':Int} {a:Arr} {v:Vd} (h:Done hold T a v) (ht:T≤T'):Done hold T' a v:=⟨h.1,Int.le_trans h.2.1 ht,h.2.2⟩
structure Inv (l:List Arr) (hold T:Int) (k:Nat) (t:IS):Prop where
 held:∀ y ∈ t.held,∃ v,vdAt t.out y.num=some v∧v.kind=4∧v.time = -1
 passed:∀ y ∈ t.passed,∃ v a,vdAt t.out y.num=some v∧l[y.num.toNat]?=some a∧Done hold T a v
 each:∀ i:Nat,i < k→(∃ y ∈ t.held,y.num=i)∨(∃ y ∈ t.passed,y.num=i)∨∃ v,vdAt t.out i=some v∧(v.kind=2∨v.kind=3)∧v.time = -1
 dist:((t.held++t.passed).map Sn.num).Nodup
theorem Inv.mono {l:List Arr} {hold T T':Int} {k:Nat} {t:IS} (h:Inv l hold T k t) (ht:T≤T'):Inv l hold T' k t:=
 ⟨h.held,fun y hy=>by obtain ⟨v,a,h1,h2,h3⟩:=h.passed y hy;exact ⟨v,a,h1,h2,h3.mono ht⟩,h.each,h.dist⟩
def Tm (l:List Arr) (hold T:Int) (held:List Sn):Prop:=∀ y ∈ held,∃ a,l[y.num.toNat]?=some a∧a.time≤T∧T≤a.time+hold
def Later (t t':IS):Prop:=(∃ m,t'.passed=t.passed++m)∧∀ y ∈ t.passed,vdAt t'.out y.num=vdAt t.out y.num
theorem Later.refl (t:IS):Later t t:=⟨⟨[],by simp⟩,fun _ _=>rfl⟩
theorem Later.trans {a b c:IS} (h:Later a b) (g:Later b c):Later a c:=by
 obtain ⟨⟨m,hm⟩,h2⟩:=h
 obtain ⟨⟨n,hn⟩,g2⟩:=g
 exact ⟨⟨m++n,by rw [hn,hm,List.append_assoc]⟩,fun y hy=>(g2 y (by rw [hm];simp [hy])).trans (h2 y hy)⟩
theorem pop_ne {k:Nat} {M:Int} {t:IS} {y:Sn} (hk:t.Mid k M) (hd:((t.held++t.passed).map Sn.num).Nodup) (hy:findS t.e t.held=some y):(∀ z ∈ delS t.e t.held,¬ y.num.toNat=z.num.toNat)∧(∀ z ∈ t.passed,¬ y.num.toNat=z.num.toNat)∧((delS t.e t.held++(t.passed ++ [y])).map Sn.num).Nodup:=by
 have hp:=delS_perm hy
 have h0:=(hk.nums y (findS_at hy).2.1).1
 have hp2:((t.held++t.passed).map Sn.num).Perm ((y::(delS t.e t.held++t.passed)).map Sn.num):=(hp.append_right t.passed).map _
 have hn:=hp2.nodup hd
 rw [List.map_cons,List.nodup_cons] at hn
 have key:∀ z ∈ delS t.e t.held++t.passed,0≤z.num→¬ y.num.toNat=z.num.toNat:=fun z hz hz0 e=>hn.1 (by
  have:y.num=z.num:=by omega
  rw [this]
  exact List.mem_map_of_mem hz)
 refine ⟨fun z hz=>key z (by simp [hz]) (hk.nums z ((delS_sub).subset hz)).1,fun z hz=>key z (by simp [hz]) (hk.pnums z hz).1,?_⟩
 have hp3:((y::(delS t.e t.held++t.passed)).map Sn.num).Perm ((delS t.e t.held++(t.passed ++ [y])).map Sn.num):=by
  refine List.Perm.map _ ?_
  rw [← List.append_assoc]
  exact (List.perm_append_singleton y _).symm
 exact hp3.nodup (by rw [List.map_cons,List.nodup_cons];exact hn)
theorem Inv.pop {l:List Arr} {hold T T':Int} {k k':Nat} {M:Int} {t:IS} {y:Sn} (h:Inv l hold T k t) (hk:t.Mid k' M) (hy:findS t.e t.held=some y) (hT:T≤T') (h0:0≤T') (hm:Tm l hold T' t.held):
  Inv l hold T' k ⟨t.e+1,delS t.e t.held,t.passed ++ [y],setT t.out y.num T'⟩∧Later t ⟨t.e+1,delS t.e t.held,t.passed ++ [y],setT t.out y.num T'⟩∧Tm l hold T' (delS t.e t.held):=by
 obtain ⟨n1,n2,n3⟩:=pop_ne hk h.dist hy
 have hym:=(findS_at hy).2.1
 have hy0:=(hk.nums y hym).1
 refine ⟨⟨fun z hz => ?_,fun z hz => ?_,fun i hi => ?_,n3⟩,⟨⟨[y],rfl⟩,fun z hz => ?_⟩,fun z hz=>hm z (delS_sub.subset hz)⟩
 ·obtain ⟨v,h1,h2⟩:=h.held z (delS_sub.subset hz)
  exact ⟨v,by rw [setT_get,if_neg (n1 z hz)];exact h1,h2⟩
 ·rcases List.mem_append.1 hz with hz|hz
  ·obtain ⟨v,a,h1,h2,h3⟩:=h.passed z hz
   exact ⟨v,a,by rw [setT_get,if_neg (n2 z hz)];exact h1,h2,h3.mono hT⟩
  ·simp only [List.mem_singleton] at hz
   subst hz
   obtain ⟨v,h1,h2,h3⟩:=h.held z hym
   obtain ⟨a,a1,a2,a3⟩:=hm z hym
   refine ⟨⟨v.kind,T'⟩,a,?_,a1,h0,Int.le_refl _,.inr ⟨h2,a2,a3⟩⟩
   rw [setT_get,if_pos rfl,h1]
   rfl
 ·by_cases hiy:y.num=i
  ·exact .inr (.inl ⟨y,by simp,hiy⟩)
  ·rcases h.each i hi with ⟨z,hz,he⟩|⟨z,hz,he⟩|⟨v,h1,h2⟩
   ·rcases List.mem_cons.1 ((delS_perm hy).subset hz) with rfl|hz
    ·exact absurd he hiy
    ·exact .inl ⟨z,hz,he⟩
   ·exact .inr (.inl ⟨z,by simp [hz],he⟩)
   ·exact .inr (.inr ⟨v,by rw [setT_get,if_neg (by omega)];exact h1,h2⟩)
 ·show vdAt (setT t.out y.num T') z.num=_
  rw [setT_get,if_neg (n2 z hz)]
theorem Inv.follow {l:List Arr} {hold time:Int} {k k':Nat} {M:Int}:∀ (n:Nat) {t:IS} {T:Int},t.held.length=n→t.Mid k' M→Inv l hold T k t→T≤time→0≤time→Tm l hold time t.held→Inv l hold time k (t.follow time)∧Later t (t.follow time)∧Tm l hold time (t.follow time).held
 |n,t,T,hn,hk,h,hT,h0,hm=>by
  cases hy:findS t.e t.held with
  |none=>
   rw [follow_none hy]
   exact ⟨h.mono hT,Later.refl t,hm⟩
  |some y=>
   have h3:=(findS_at hy).2.2
   obtain ⟨g1,g2,g3⟩:=h.pop hk hy hT h0 hm
   obtain ⟨f1,f2,f3⟩:=Inv.follow (time:=time) (delS t.e t.held).length rfl (hk.pop (time:=time) hy) g1 (Int.le_refl _) h0 g3
   rw [follow_some hy]
   exact ⟨f1,g2.trans f2,f3⟩
termination_by n=>n
decreasing_by have h3:=(findS_at hy).2.2;omega
def Asc (l:List Arr):Prop:=∀ (i j:Nat) (a b:Arr),i≤j→l[i]?=some a→l[j]?=some b→a.time≤b.time
theorem Inv.give {l:List Arr} {hold time:Int} {k k':Nat} {M:Int} (hasc:Asc l) (hh:0≤hold):∀ (n:Nat) {t:IS} {T:Int},t.held.length=n→t.Ok k' M→Inv l hold T k t→0≤T→T≤time→Tm l hold T t.held→Inv l hold time k (t.give l hold time)∧Later t (t.give l hold time)∧∀ y ∈ (t.give l hold time).held,∃ a,l[y.num.toNat]?=some a∧a.time≤time∧time < a.time+hold
 |n,t,T,hn,hk,h,h0,hT,hm=>by
  cases hd:t.held with
  |nil=>
   rw [give_nil hd]
   exact ⟨h.mono hT,Later.refl t,fun y hy=>by rw [hd] at hy;simp at hy⟩
  |cons y r=>
   obtain ⟨a,a1,a2,a3⟩:=hm y (by rw [hd];simp)
   have htm:tmAt l y.num=a.time:=by unfold tmAt;rw [a1]
   have low:∀ z ∈ t.held,∀ b,l[z.num.toNat]?=some b→a.time≤b.time:=fun z hz b hb=>by
    refine hasc y.num.toNat z.num.toNat a b ?_ a1 hb
    have hinc:=hk.inc
    rw [hd,List.pairwise_cons] at hinc
    rw [hd] at hz
    rcases List.mem_cons.1 hz with rfl|hz
    ·exact Nat.le_refl _
    ·have:=hinc.1 z hz
     omega
   by_cases hs:time < a.time+hold
   ·rw [give_stop hd (by rw [htm];exact hs)]
    refine ⟨h.mono hT,Later.refl t,fun z hz => ?_⟩
    obtain ⟨b,b1,b2,b3⟩:=hm z hz
    have:=low z hz b b1
    exact ⟨b,b1,by omega,by omega⟩
   ·obtain ⟨g1,g2,g3⟩:=give_go (l:=l) (hold:=hold) (time:=time) hk hd (by rw [htm];omega)
    have hne:t.held ≠ []:=by rw [hd];simp
    rw [htm] at g1 g2 g3
    obtain ⟨f1,f2,f3⟩:=Inv.follow (l:=l) (hold:=hold) (time:=a.time+hold) (k:=k) (t:=⟨lowS t.held,t.held,t.passed,t.out⟩) t.held.length rfl (hk.low hne) ⟨h.held,h.passed,h.each,h.dist⟩ a3 (by omega) fun z hz=>by
     obtain ⟨b,b1,b2,b3⟩:=hm z hz
     have:=low z hz b b1
     exact ⟨b,b1,by omega,by omega⟩
    rw [hn] at g3
    obtain ⟨e1,e2,e3⟩:=Inv.give (time:=time) hasc hh (IS.follow ⟨lowS t.held,t.held,t.passed,t.out⟩ (a.time+hold)).held.length rfl g2 f1 (by omega) (by omega) f3
    rw [g1]
    exact ⟨e1,(show Later t _ from ⟨f2.1,f2.2⟩).trans e2,e3⟩
termination_by n=>n
decreasing_by rw [htm] at g3;omega
theorem give_give {l:List Arr} {hold T1 T2:Int} {k':Nat} {M:Int} (hT:T1≤T2):∀ (n:Nat) {t:IS},t.held.length=n→t.Ok k' M→(t.give l hold T1).give l hold T2=t.give l hold T2
 |n,t,hn,hk=>by
  cases hd:t.held with
  |nil=>rw [give_nil (time:=T1) hd]
  |cons y r=>
   by_cases hs:T1 < tmAt l y.num+hold
   ·rw [give_stop (time:=T1) hd hs]
   ·obtain ⟨g1,g2,g3⟩:=give_go (l:=l) (hold:=hold) (time:=T1) hk hd (by omega)
    obtain ⟨f1,_,_⟩:=give_go (l:=l) (hold:=hold) (time:=T2) hk hd (by omega)
    rw [g1,f1]
    exact give_give hT _ rfl g2
termination_by n=>n
decreasing_by omega
/-! What has come keeps it. -/
theorem Later.ext {t:IS} {m:List Vd} {k:Nat} {M:Int} (hk:t.Mid k M):Later t (t.ext m):=by
 refine ⟨⟨[],by simp [IS.ext]⟩,fun y hy => ?_⟩
 have h1:=hk.pnums y hy
 show (t.out++m)[y.num.toNat]?=t.out[y.num.toNat]?
 exact List.getElem?_append_left (by rw [hk.out];omega)
theorem Inv.upd {l:List Arr} {hold T:Int} {k:Nat} {t:IS} {out':List Vd} {e':Int} (h:Inv l hold T k t) (h1:∀ y ∈ t.held,0≤y.num∧y.num < k) (h2:∀ y ∈ t.passed,0≤y.num∧y.num < k) (hs:∀ i:Int,0≤i→i < k→vdAt out' i=vdAt t.out i):Inv l hold T k ⟨e',t.held,t.passed,out'⟩:=by
 refine ⟨fun y hy => ?_,fun y hy => ?_,fun i hi => ?_,h.dist⟩
 ·obtain ⟨v,g1,g2⟩:=h.held y hy
  exact ⟨v,by rw [hs _ (h1 y hy).1 (h1 y hy).2];exact g1,g2⟩
 ·obtain ⟨v,a,g1,g2⟩:=h.passed y hy
  exact ⟨v,a,by rw [hs _ (h2 y hy).1 (h2 y hy).2];exact g1,g2⟩
 ·rcases h.each i hi with g|g|⟨v,g1,g2⟩
  ·exact .inl g
  ·exact .inr (.inl g)
  ·exact .inr (.inr ⟨v,by rw [hs _ (by omega) (by omega)];exact g1,g2⟩)
theorem setK_same {l:List Vd} {k:Nat} {q:Int} {i:Int} (h0:0≤i) (h1:i < k):vdAt (setK l k q) i=vdAt l i:=by
 rw [setK_get,if_neg (by omega)]
theorem setT_same {l:List Vd} {k:Nat} {q:Int} {i:Int} (h0:0≤i) (h1:i < k):vdAt (setT l k q) i=vdAt l i:=by
 rw [setT_get,if_neg (by omega)]
theorem nodup_add {a b:List Sn} {k:Nat} {p:Int} (h:((a++b).map Sn.num).Nodup) (h1:∀ y ∈ a,y.num < k) (h2:∀ y ∈ b,y.num < k):((a ++ [(⟨k,p⟩:Sn)]++b).map Sn.num).Nodup∧((a++(b ++ [(⟨k,p⟩:Sn)])).map Sn.num).Nodup:=by
 have hc:((⟨k,p⟩::(a++b):List Sn).map Sn.num).Nodup:=by
  rw [List.map_cons,List.nodup_cons]
  refine ⟨fun hm => ?_,h⟩
  obtain ⟨y,hy,he⟩:=List.mem_map.1 hm
  have he:y.num=k:=he
  rcases List.mem_append.1 hy with hy|hy
  ·have:=h1 y hy;omega
  ·have:=h2 y hy;omega
 refine ⟨(List.Perm.map _ ?_).nodup hc,(List.Perm.map _ ?_).nodup hc⟩
 ·rw [List.append_assoc]
  exact (List.perm_middle (a:=(⟨k,p⟩:Sn)) (l₁:=a) (l₂:=b)).symm
 ·rw [← List.append_assoc]
  exact (List.perm_append_singleton _ _).symm
theorem Inv.addSeen {l:List Arr} {hold T:Int} {k:Nat} {t:IS} {v:Vd} (h:Inv l hold T k t) (hv:vdAt t.out k=some v) (hk:(v.kind=2∨v.kind=3)∧v.time = -1):Inv l hold T (k+1) t:=
 ⟨h.held,h.passed,fun i hi=>by
  by_cases hik:i=k
  ·subst hik
   exact .inr (.inr ⟨v,hv,hk⟩)
  ·exact h.each i (by omega),h.dist⟩
theorem Inv.addHeld {l:List Arr} {hold T:Int} {k:Nat} {t:IS} {p:Int} (h:Inv l hold T k t) (h1:∀ y ∈ t.held,y.num < k) (h2:∀ y ∈ t.passed,y.num < k) (hv:vdAt t.out k=some ⟨4,-1⟩):Inv l hold T (k+1) ⟨t.e,t.held ++ [⟨k,p⟩],t.passed,t.out⟩:=
 ⟨fun y hy=>by
  rcases List.mem_append.1 hy with hy|hy
  ·exact h.held y hy
  ·simp only [List.mem_singleton] at hy
   subst hy
   exact ⟨_,hv,rfl,rfl⟩,h.passed,fun i hi=>by
  by_cases hik:i=k
  ·subst hik
   exact .inl ⟨⟨i,p⟩,by simp,rfl⟩
  ·rcases h.each i (by omega) with ⟨y,hy,e⟩|g
   ·exact .inl ⟨y,by simp [hy],e⟩
   ·exact .inr g,(nodup_add h.dist h1 h2).1⟩
theorem Inv.addPassed {l:List Arr} {hold T:Int} {k:Nat} {t:IS} {p e':Int} {a:Arr} {v:Vd} (h:Inv l hold T k t) (h1:∀ y ∈ t.held,y.num < k) (h2:∀ y ∈ t.passed,y.num < k) (ha:l[k]?=some a) (hv:vdAt t.out k=some v) (hd:Done hold T a v):Inv l hold T (k+1) ⟨e',t.held,t.passed ++ [⟨k,p⟩],t.out⟩:=
 ⟨h.held,fun y hy=>by
  rcases List.mem_append.1 hy with hy|hy
  ·exact h.passed y hy
  ·simp only [List.mem_singleton] at hy
   subst hy
   exact ⟨v,a,hv,by simpa using ha,hd⟩,fun i hi=>by
  by_cases hik:i=k
  ·subst hik
   exact .inr (.inl ⟨⟨i,p⟩,by simp,rfl⟩)
  ·rcases h.each i (by omega) with g|⟨y,hy,e⟩|g
   ·exact .inl g
   ·exact .inr (.inl ⟨y,by simp [hy],e⟩)
   ·exact .inr (.inr g),(nodup_add h.dist h1 h2).2⟩
theorem Inv.take {s:Ser} {l:List Arr} {hold:Int} {k:Nat} {M:Int} {t:IS} {a:Arr} (hp:t.Pre k M) (h:Inv l hold a.time k t) (ha:l[k]?=some a) (hM:0≤M) (h0:0≤a.time) (hh:0≤hold) (hv:vdAt t.out k=some ⟨0,-1⟩) (hm:Tm l hold a.time t.held) (hmid:IS.Mid (k+1) (M+1) ⟨t.e+1,t.held,t.passed ++ [⟨k,t.e⟩],setT (setK t.out k 1) k a.time⟩):
  Inv l hold a.time (k+1) (t.take s l k a)∧Later t (t.take s l k a)∧Tm l hold a.time (t.take s l k a).held:=by
 have n1:∀ y ∈ t.held,0≤y.num∧y.num < k:=fun y hy=>⟨(hp.ok.nums y hy).1,hp.nums y hy⟩
 have n2:∀ y ∈ t.passed,0≤y.num∧y.num < k:=fun y hy=>⟨(hp.ok.pnums y hy).1,hp.pnums y hy⟩
 have hK:∀ q:Int,vdAt (setK t.out k q) k=some ⟨q,-1⟩:=fun q=>by rw [setK_get,if_pos rfl,hv];rfl
 have hKT:∀ q:Int,vdAt (setT (setK t.out k q) k a.time) k=some ⟨q,a.time⟩:=fun q=>by rw [setT_get,if_pos rfl,hK];rfl
 have sK:∀ (q i:Int),0≤i→i < k→vdAt (setK t.out k q) i=vdAt t.out i:=fun q i h1 h2=>setK_same h1 h2
 have sKT:∀ (q i:Int),0≤i→i < k→vdAt (setT (setK t.out k q) k a.time) i=vdAt t.out i:=fun q i h1 h2=>(setT_same h1 h2).trans (sK q i h1 h2)
 have lK:∀ (e':Int) (hd:List Sn) (ps m:List Sn) (out':List Vd),ps=t.passed++m→(∀ i:Int,0≤i→i < k→vdAt out' i=vdAt t.out i)→Later t ⟨e',hd,ps,out'⟩:=fun e' hd ps m out' e hs=>⟨⟨m,e⟩,fun y hy=>hs _ (n2 y hy).1 (n2 y hy).2⟩
 unfold IS.take
 split
 ·rename_i he
  have i1:=(h.upd (e':=t.e) n1 n2 (sKT 1)).addPassed (p:=t.e) (e':=t.e+1) (fun y hy=>(n1 y hy).2) (fun y hy=>(n2 y hy).2) ha (hKT 1) ⟨h0,Int.le_refl _,.inl ⟨.inl rfl,rfl⟩⟩
  obtain ⟨f1,f2,f3⟩:=Inv.follow (time:=a.time) _ rfl hmid i1 (Int.le_refl _) h0 hm
  exact ⟨f1,(lK _ _ _ _ _ rfl (sKT 1)).trans f2,f3⟩
 ·split
  ·rename_i hlt
   split
   ·rename_i z hz
    have hk2:alikeK l a.dig z=2∨alikeK l a.dig z=3:=by unfold alikeK;split<;>simp
    exact ⟨(h.upd (e':=t.e) n1 n2 (sK _)).addSeen (hK _) ⟨hk2,rfl⟩,lK _ _ _ [] _ (by simp) (sK _),hm⟩
   ·refine ⟨(h.upd (e':=t.e) n1 n2 (sK 4)).addHeld (fun y hy=>(n1 y hy).2) (fun y hy=>(n2 y hy).2) (hK 4),lK _ _ _ [] _ (by simp) (sK _),fun y hy => ?_⟩
    rcases List.mem_append.1 hy with hy|hy
    ·exact hm y hy
    ·simp only [List.mem_singleton] at hy
     subst hy
     exact ⟨a,by simpa using ha,Int.le_refl _,by omega⟩
  ·split
   ·rename_i z hz
    have hk2:alikeK l a.dig z=2∨alikeK l a.dig z=3:=by unfold alikeK;split<;>simp
    exact ⟨(h.upd (e':=t.e) n1 n2 (sK _)).addSeen (hK _) ⟨hk2,rfl⟩,lK _ _ _ [] _ (by simp) (sK _),hm⟩
   ·exact ⟨(h.upd (e':=t.e) n1 n2 (sKT 5)).addPassed (p:=placeN s t.e a.num) (e':=t.e) (fun y hy=>(n1 y hy).2) (fun y hy=>(n2 y hy).2) ha (hKT 5) ⟨h0,Int.le_refl _,.inl ⟨.inr rfl,rfl⟩⟩,lK _ _ _ _ _ rfl (sKT 5),hm⟩
end Go.Proofs.YtalejlbiccdfjaaDoor
