/- Partners and addresses: plain definitions. Conditions: plain definitions. Conditions: the small functions, and the comparison. Elements of segments (plain). Digits of whole numbers with a base (plain). Steps of sums, differences and products of digits (plain). Digits with a length that is given; signs (plain). Whole numbers of the program: digits of 32 bits (walks). Sums, differences and products of the program's whole numbers (walks). Differences of the program's whole numbers, and comparisons (walks). Products of the program's whole numbers, powers of ten (walks). -/
import Derived.Test.YtdhlopciapncfaaGreatDoorZ7
import Derived.Test.YtdhlopciapncfaaGreatDoorZ8
import Derived.Test.YtdhlopciapncfaaGreatDoorZ6
namespace Go.Proofs.YtdhlopciapncfaaGreatDoor
set_option linter.unusedSimpArgs false
set_option linter.unusedVariables false
open Go.RowKit
structure Adr where
 kind:Str
 id:Str
 deriving DecidableEq
structure Par where
 name:Str
 addrs:List Adr
abbrev Adr.row (a:Adr):List D := [.str a.kind,.str a.id]
abbrev Adr.d (a:Adr):D:=.agg [.str a.kind,.str a.id]
abbrev Adr.key (a:Adr):Value:=.agg [.string ⟨a.kind.toArray⟩,.string ⟨a.id.toArray⟩].toArray
abbrev Par.row (p:Par):List D := [.str p.name,.sl 0 2 (p.addrs.map Adr.row)]
structure Adr.Ok (a:Adr):Prop where
 kind:a.kind.Ok
 id:a.id.Ok
structure Par.Ok (p:Par):Prop where
 name:p.name.Ok
 addrs:∀ a ∈ p.addrs,a.Ok
theorem take_at {α:Type} {l:List α} {k:Nat} {x:α} (h:l[k]?=some x):l.take (k+1)=l.take k ++ [x]:=by
 obtain ⟨hlt,rfl⟩:=List.getElem?_eq_some_iff.1 h
 exact List.take_succ_eq_append_getElem hlt
set_option maxRecDepth 100000
inductive Cond where
 |mk (kind:Int) (kids:List Cond) (path:Str) (vals:List Str) (low high:Int)
mutual
def Cond.row:Cond→List D
 |.mk k ks p vs lo hi => [.int .i64 k,.sl 0 6 (Cond.rows ks),.str p,.sl 0 1 (vs.map fun s => [.str s]),.int .i64 lo,.int .i64 hi]
def Cond.rows:List Cond→List (List D)
 |[] => []
 |c::l=>c.row::Cond.rows l
end
mutual
def Cond.same:Cond→Cond→Bool
 |.mk k ks p vs lo hi,.mk k' ks' p' vs' lo' hi'=>(k == k') && (p == p') && (lo == lo') && (hi == hi') && (vs == vs') && Cond.sames ks ks'
def Cond.sames:List Cond→List Cond→Bool
 |[],[]=>true
 |a::l,b::m=>Cond.same a b && Cond.sames l m
 |[],_::_=>false
 |_::_,[]=>false
end
theorem Cond.rows_map (l:List Cond):Cond.rows l=l.map Cond.row:=by
 induction l with
 |nil=>rw [Cond.rows,List.map_nil]
 |cons c l ih=>rw [Cond.rows,List.map_cons,ih]
theorem Cond.row_mk (k:Int) (ks:List Cond) (p:Str) (vs:List Str) (lo hi:Int):(Cond.mk k ks p vs lo hi).row = [.int .i64 k,.sl 0 6 (ks.map Cond.row),.str p,.sl 0 1 (vs.map fun s => [.str s]),.int .i64 lo,.int .i64 hi]:=by
 rw [Cond.row,Cond.rows_map]
attribute [irreducible] Cond.row
theorem Cond.row_len (c:Cond):c.row.length=6:=by
 obtain ⟨k,ks,p,vs,lo,hi⟩:=c
 rw [Cond.row_mk]
 rfl
theorem Cond.ind {p:Cond→Prop} (h:∀ k ks q vs lo hi,(∀ x ∈ ks,p x)→p (.mk k ks q vs lo hi)) (c:Cond):p c:=
 Cond.rec (motive_1:=p) (motive_2:=fun l=>∀ x ∈ l,p x) (fun k ks q vs lo hi ih=>h k ks q vs lo hi ih) (fun x hx=>by simp at hx) (fun c l h1 h2 x hx=>by
  rcases List.mem_cons.1 hx with rfl|hx
  ·exact h1
  ·exact h2 x hx) c
attribute [irreducible] Cond.same
theorem idx_row {l:List Cond} {i:Int} {j:Nat} {k:Int} {ks:List Cond} {p:Str} {vs:List Str} {lo hi:Int} (h:l[j]?=some (.mk k ks p vs lo hi)) (hi':i=j):0≤i∧(l.map Cond.row)[i.toNat]?=some [.int .i64 k,.sl 0 6 (ks.map Cond.row),.str p,.sl 0 1 (vs.map fun s => [.str s]),.int .i64 lo,.int .i64 hi]:=by
 subst hi'
 refine ⟨by omega,?_⟩
 rw [Int.toNat_natCast,List.getElem?_map,h,Option.map_some,Cond.row_mk]
def anyC (l:List Cond):Cond:=.mk 2 l [] [] 0 0
def notC (c:Cond):Cond:=.mk 3 [c] [] [] 0 0
def noneC:Cond:=.mk 0 [] [] [] 0 0
set_option maxHeartbeats 400000
abbrev El:=List (List Str)
def partR (s:Str):List D := [.str s]
def repR (p:List Str):List D := [.sl 0 1 (p.map partR)]
def elR (e:El):List D := [.sl 0 1 (e.map repR)]
structure NarE (e:El):Prop where
 few:e.length≤20
 parts:∀ p ∈ e,1≤p.length∧p.length≤20
 texts:∀ p ∈ e,∀ s ∈ p,s.length≤1000
end Go.Proofs.YtdhlopciapncfaaGreatDoor
namespace Go.Proofs.YtdhlopciapncfaaGreatDoor
set_option linter.unusedSimpArgs false
set_option linter.unusedVariables false
def dg (B:Nat) (n:Nat):List Nat:=if _:n=0∨B < 2 then [] else n % B::dg B (n / B)
termination_by n
decreasing_by exact Nat.div_lt_self (by omega) (by omega)
def vl (B:Nat):List Nat→Nat
 |[]=>0
 |d::l=>d+B * vl B l
def Dig (B:Nat) (l:List Nat):Prop:=∀ d ∈ l,d < B
theorem dg_zero (B:Nat):dg B 0 = []:=by rw [dg];simp
theorem dg_pos {B n:Nat} (hB:2≤B) (h:n ≠ 0):dg B n=n % B::dg B (n / B):=by
 rw [dg,dif_neg (by omega)]
theorem vl_dg {B:Nat} (hB:2≤B) (n:Nat):vl B (dg B n)=n:=by
 induction n using Nat.strongRecOn with
 |_ n ih=>
  by_cases h:n=0
  ·rw [h,dg_zero];rfl
  ·rw [dg_pos hB h,vl,ih _ (Nat.div_lt_self (by omega) (by omega))]
   exact Nat.mod_add_div n B
theorem dg_dig {B:Nat} (hB:2≤B) (n:Nat):Dig B (dg B n):=by
 induction n using Nat.strongRecOn with
 |_ n ih=>
  by_cases h:n=0
  ·rw [h,dg_zero];intro d hd;cases hd
  ·rw [dg_pos hB h]
   intro d hd
   rcases List.mem_cons.1 hd with rfl|hd
   ·exact Nat.mod_lt _ (by omega)
   ·exact ih _ (Nat.div_lt_self (by omega) (by omega)) d hd
theorem dig_nil (B:Nat):Dig B []:=by intro d hd;cases hd
theorem Dig.cons {B d:Nat} {l:List Nat} (h:d < B) (hl:Dig B l):Dig B (d::l):=by
 intro x hx
 rcases List.mem_cons.1 hx with rfl|hx
 ·exact h
 ·exact hl x hx
theorem Dig.take {B:Nat} {l:List Nat} (h:Dig B l) (i:Nat):Dig B (l.take i):=fun d hd=>h d (List.mem_of_mem_take hd)
theorem Dig.drop {B:Nat} {l:List Nat} (h:Dig B l) (i:Nat):Dig B (l.drop i):=fun d hd=>h d (List.mem_of_mem_drop hd)
theorem Dig.app {B:Nat} {l m:List Nat} (h:Dig B l) (h2:Dig B m):Dig B (l++m):=fun d hd=>by
 rcases List.mem_append.1 hd with hd|hd
 ·exact h d hd
 ·exact h2 d hd
theorem Dig.set {B d i:Nat} {l:List Nat} (h:Dig B l) (hd:d < B):Dig B (l.set i d):=fun x hx=>by
 rcases List.mem_or_eq_of_mem_set hx with hx|rfl
 ·exact h x hx
 ·exact hd
theorem dg_vl {B:Nat} (hB:2≤B):∀ (l:List Nat),Dig B l→(∀ h:l ≠ [],l.getLast h ≠ 0)→dg B (vl B l)=l
 |[],_,_=>dg_zero B
 |d::l,hd,hl=>by
  have h0:d < B:=hd d (by simp)
  have hd':Dig B l:=fun x hx=>hd x (by simp [hx])
  have ih:=dg_vl hB l hd' (fun h=>by
   have:=hl (by simp)
   rwa [List.getLast_cons h] at this)
  have hne:d+B * vl B l ≠ 0:=by
   intro e
   have e0:d=0:=by omega
   have e1:vl B l=0:=by
    rcases Nat.eq_zero_or_pos (vl B l) with h|h
    ·exact h
    ·have:=Nat.mul_pos (show 0 < B by omega) h;omega
   rw [e1,dg_zero] at ih
   subst ih
   exact hl (by simp) (by simpa using e0)
  rw [vl,dg_pos hB hne,Nat.add_mul_mod_self_left,Nat.mod_eq_of_lt h0,Nat.add_mul_div_left _ _ (by omega),Nat.div_eq_of_lt h0,Nat.zero_add,ih]
theorem vl_app (B:Nat):∀ (l m:List Nat),vl B (l++m)=vl B l+B ^ l.length * vl B m
 |[],m=>by simp [vl]
 |d::l,m=>by
  rw [List.cons_append,vl,vl,vl_app B l m,List.length_cons,Nat.pow_succ,Nat.mul_add,← Nat.mul_assoc,Nat.mul_comm B (B ^ l.length)]
  omega
theorem vl_split (B:Nat) (l:List Nat) (i:Nat):vl B l=vl B (l.take i)+B ^ (l.take i).length * vl B (l.drop i):=by
 rw [← vl_app,List.take_append_drop]
theorem vl_zeros (B n:Nat):vl B (List.replicate n 0)=0:=by
 induction n with
 |zero=>rfl
 |succ n ih=>rw [List.replicate_succ,vl,ih,Nat.mul_zero]
theorem vl_lt {B:Nat}:∀ {l:List Nat},Dig B l→vl B l < B ^ l.length
 |[],_=>by simp [vl]
 |d::l,h=>by
  have h0:d < B:=h d (by simp)
  have ih:=vl_lt (B:=B) (l:=l) fun x hx=>h x (by simp [hx])
  rw [vl,List.length_cons,Nat.pow_succ]
  have h1:B * (vl B l+1)≤B * B ^ l.length:=Nat.mul_le_mul_left B ih
  rw [Nat.mul_add,Nat.mul_one,Nat.mul_comm B (B ^ _)] at h1
  omega
theorem vl_at {B i d:Nat} {l:List Nat} (h:l[i]?=some d):vl B (l.drop i)=d+B * vl B (l.drop (i+1)):=by
 rw [List.drop_eq_getElem_cons (gLt h),(List.getElem?_eq_some_iff.1 h).2]
 rfl
theorem vl_set {B d x:Nat}:∀ {l:List Nat} {i:Nat},l[i]?=some d→vl B (l.set i x)+d * B ^ i=vl B l+x * B ^ i
 |[],i,h=>by simp at h
 |a::l,0,h=>by
  simp at h
  subst h
  simp [vl]
  omega
 |a::l,i+1,h=>by
  have ih:=vl_set (B:=B) (x:=x) (l:=l) (i:=i) (by simpa using h)
  rw [List.set_cons_succ,vl,vl,Nat.pow_succ,← Nat.mul_assoc,← Nat.mul_assoc]
  have e:B * (vl B (l.set i x)+d * B ^ i)=B * (vl B l+x * B ^ i):=by rw [ih]
  rw [Nat.mul_add,Nat.mul_add] at e
  rw [Nat.mul_comm (d * B ^ i) B,Nat.mul_comm (x * B ^ i) B]
  omega
theorem dg_last {B:Nat} (hB:2≤B) (n:Nat):∀ h:dg B n ≠ [],(dg B n).getLast h ≠ 0:=by
 induction n using Nat.strongRecOn with
 |_ n ih=>
  intro h
  by_cases h0:n=0
  ·subst h0;exact absurd (dg_zero B) h
  ·have hlt:n / B < n:=Nat.div_lt_self (by omega) (by omega)
   have e:=dg_pos hB h0
   by_cases h1:n / B=0
   ·have:dg B n = [n % B]:=by rw [e,h1,dg_zero]
    have hn:n % B ≠ 0:=by
     have:=Nat.mod_add_div n B
     rw [h1,Nat.mul_zero] at this
     omega
    simp only [this,List.getLast_singleton]
    exact hn
   ·have hne:dg B (n / B) ≠ []:=by rw [dg_pos hB h1];simp
    have:=ih _ hlt hne
    have e2:(dg B n).getLast h=(dg B (n / B)).getLast hne:=by
     simp only [e]
     exact List.getLast_cons hne
    rw [e2];exact this
theorem dg_len {B m n:Nat} (hB:2≤B) (h:(dg B m).length < (dg B n).length):m < n:=by
 have h1:=vl_lt (dg_dig hB m)
 rw [vl_dg hB] at h1
 have hne:dg B n ≠ []:=by intro e;rw [e] at h;simp at h
 have h2:=dg_last hB n hne
 have e:=List.dropLast_concat_getLast hne
 have e2:=congrArg (vl B) e
 rw [vl_app,vl_dg hB,List.length_dropLast] at e2
 rw [show vl B [(dg B n).getLast hne]=(dg B n).getLast hne by simp [vl]] at e2
 have h3:B ^ ((dg B n).length - 1) * 1≤B ^ ((dg B n).length - 1) * (dg B n).getLast hne:=Nat.mul_le_mul_left _ (by omega)
 have h4:B ^ (dg B m).length≤B ^ ((dg B n).length - 1):=Nat.pow_le_pow_right (by omega) (by omega)
 omega
theorem dg_le {B n k:Nat} (hB:2≤B) (h:n < B ^ k):(dg B n).length≤k:=by
 rcases Nat.lt_or_ge k (dg B n).length with h1|h1
 ·exfalso
  have hne:dg B n ≠ []:=by intro e;rw [e] at h1;simp at h1
  have h2:=dg_last hB n hne
  have e:=List.dropLast_concat_getLast hne
  have e2:=congrArg (vl B) e
  rw [vl_app,vl_dg hB,List.length_dropLast] at e2
  rw [show vl B [(dg B n).getLast hne]=(dg B n).getLast hne by simp [vl]] at e2
  have h3:B ^ ((dg B n).length - 1) * 1≤B ^ ((dg B n).length - 1) * (dg B n).getLast hne:=Nat.mul_le_mul_left _ (by omega)
  have h4:B ^ k≤B ^ ((dg B n).length - 1):=Nat.pow_le_pow_right (by omega) (by omega)
  omega
 ·exact h1
def topD:List Nat→List Nat→Int
 |a::l,b::m=>if topD l m ≠ 0 then topD l m else (a:Int) - b
 |_,_=>0
theorem topD_at {l m:List Nat} {i a b:Nat} (h:l[i]?=some a) (h2:m[i]?=some b):topD (l.drop i) (m.drop i)=if topD (l.drop (i+1)) (m.drop (i+1)) ≠ 0 then topD (l.drop (i+1)) (m.drop (i+1)) else (a:Int) - b:=by
 rw [List.drop_eq_getElem_cons (gLt h),(List.getElem?_eq_some_iff.1 h).2,List.drop_eq_getElem_cons (gLt h2),(List.getElem?_eq_some_iff.1 h2).2]
 rfl
theorem topD_vl {B:Nat}:∀ {l m:List Nat},Dig B l→Dig B m→l.length=m.length→(topD l m < 0↔vl B l < vl B m)∧(0 < topD l m↔vl B m < vl B l)
 |[],[],_,_,_=>by simp [topD]
 |[],_::_,_,_,h=>by simp at h
 |_::_,[],_,_,h=>by simp at h
 |a::l,b::m,h1,h2,h=>by
  have ha:a < B:=h1 a (by simp)
  have hb:b < B:=h2 b (by simp)
  obtain ⟨i1,i2⟩:=topD_vl (B:=B) (l:=l) (m:=m) (fun x hx=>h1 x (by simp [hx])) (fun x hx=>h2 x (by simp [hx])) (by simpa using h)
  have key:∀ x y:Nat,x < y→B * x+B≤B * y:=fun x y h=>by
   have:=Nat.mul_le_mul_left B (show x+1≤y from h)
   rw [Nat.mul_add,Nat.mul_one] at this
   exact this
  rw [topD,vl,vl]
  by_cases h0:topD l m=0
  ·rw [if_neg (by simpa using h0)]
   have e:vl B l=vl B m:=by
    have g1:¬ vl B l < vl B m:=fun g=>by have:=i1.2 g;omega
    have g2:¬ vl B m < vl B l:=fun g=>by have:=i2.2 g;omega
    omega
   rw [e]
   constructor<;>constructor<;>intro<;>omega
  ·rw [if_pos h0]
   rcases Int.lt_or_gt_of_ne h0 with g|g
   ·have:=key _ _ (i1.1 g)
    constructor<;>constructor<;>intro<;>omega
   ·have:=key _ _ (i2.1 g)
    constructor<;>constructor<;>intro<;>omega
theorem vl_one (B d:Nat):vl B [d]=d:=by simp [vl]
theorem vl_snoc (B:Nat) (l:List Nat) (d:Nat):vl B (l ++ [d])=vl B l+B ^ l.length * d:=by rw [vl_app,vl_one]
theorem trim_exit {B:Nat} (hB:2≤B) {l:List Nat} (hd:Dig B l) {j:Nat} (hj:j≤l.length) (hv:vl B (l.take j)=vl B l) (h:j=0∨∃ d,l[j - 1]?=some d∧d ≠ 0):l.take j=dg B (vl B l):=by
 rw [← hv,dg_vl hB _ (hd.take j)]
 intro hne
 rcases h with rfl|⟨d,h1,h2⟩
 ·exact absurd List.take_zero hne
 ·have hpos:0 < j:=by
   rcases Nat.eq_zero_or_pos j with rfl|h
   ·exact absurd List.take_zero hne
   ·exact h
  rw [List.getLast_eq_getElem]
  have:(l.take j)[(l.take j).length - 1]?=some d:=by
   rw [List.length_take,Nat.min_eq_left hj,List.getElem?_take_of_lt (by omega),h1]
  rw [List.getElem?_eq_getElem (by rw [List.length_take];omega)] at this
  rw [Option.some.inj this]
  exact h2
theorem trim_step {B j:Nat} {l:List Nat} (h:l[j]?=some 0):vl B (l.take (j+1))=vl B (l.take j):=by
 have:l.take (j+1)=l.take j ++ [0]:=by
  rw [List.take_add_one,h];rfl
 rw [this,vl_snoc,Nat.mul_zero,Nat.add_zero]
theorem add_step {B i d A Y:Nat} {out:List Nat} (hl:out.length=i):vl B (out ++ [d % B])+B ^ (i+1) * (d / B+A+Y)=vl B out+B ^ i * (d+B * A+B * Y):=by
 have h:=Nat.mod_add_div d B
 have e:B ^ i * (d % B+B * (d / B)+B * A+B * Y)=B ^ i * (d+B * A+B * Y):=by rw [h]
 rw [vl_snoc,hl,← e,Nat.pow_succ,Nat.mul_assoc,Nat.add_assoc,← Nat.mul_add,Nat.mul_add B,Nat.mul_add B]
 congr 2
 omega
theorem sub_step {B i x y d w w' A Y D:Nat} {out:List Nat} (hl:out.length=i) (h:vl B out+B ^ i * (x+B * A)=D+B ^ i * (w+y+B * Y)) (hd:d+y+w=x+B * w'):vl B (out ++ [d])+B ^ (i+1) * A=D+B ^ (i+1) * (w'+Y):=by
 have e:B ^ i * (d+y+w)=B ^ i * (x+B * w'):=by rw [hd]
 simp only [Nat.mul_add] at h e
 rw [vl_snoc,hl,Nat.pow_succ,Nat.mul_assoc,Nat.mul_assoc]
 simp only [Nat.mul_add]
 omega
theorem vl_beyond {B k d:Nat} {l:List Nat} (hB:2≤B) (h:vl B l < B ^ k) (hk:l[k]?=some d):d=0:=by
 have hlt:=(gLt hk)
 have e:=vl_split B l k
 rw [vl_at hk,List.length_take,Nat.min_eq_left (by omega)] at e
 rcases Nat.eq_zero_or_pos d with h0|h0
 ·exact h0
 ·have:B ^ k * 1≤B ^ k * (d+B * vl B (l.drop (k+1))):=Nat.mul_le_mul_left _ (by omega)
  omega
theorem take_snocN {l:List Nat} {i x:Nat} (h:l[i]?=some x):l.take (i+1)=l.take i ++ [x]:=by rw [List.take_add_one,h];rfl
theorem vl_takeS {B i x:Nat} {l:List Nat} (h:l[i]?=some x):vl B (l.take (i+1))=vl B (l.take i)+B ^ i * x:=by
 rw [take_snocN h,vl_snoc,List.length_take,Nat.min_eq_left (by have:=(gLt h);omega)]
theorem mul_step {B i k x y o c V:Nat} {out b:List Nat} (hb:b[k]?=some y) (ho:out[i+k]?=some o) (h:vl B out+c * B ^ (i+k)=V+x * vl B (b.take k) * B ^ i):
  vl B (out.set (i+k) ((c+o+x * y) % B))+(c+o+x * y) / B * B ^ (i+k+1)=V+x * vl B (b.take (k+1)) * B ^ i:=by
 have h1:=vl_set (B:=B) (x:=(c+o+x * y) % B) ho
 have h2:=Nat.mod_add_div (c+o+x * y) B
 have e:((c+o+x * y) % B+B * ((c+o+x * y) / B)) * B ^ (i+k)=(c+o+x * y) * B ^ (i+k):=by rw [h2]
 rw [vl_takeS hb]
 have e3:x * (vl B (b.take k)+B ^ k * y) * B ^ i=x * vl B (b.take k) * B ^ i+x * y * B ^ (i+k):=by
  rw [Nat.mul_add,Nat.add_mul,Nat.pow_add]
  congr 1
  rw [Nat.mul_comm (B ^ k) y,← Nat.mul_assoc x y,Nat.mul_assoc (x * y),Nat.mul_comm (B ^ k)]
 rw [e3]
 have e4:(c+o+x * y) / B * B ^ (i+k+1)=B * ((c+o+x * y) / B) * B ^ (i+k):=by
  rw [Nat.pow_succ,Nat.mul_comm (B ^ (i+k)) B,← Nat.mul_assoc,Nat.mul_comm _ B]
 rw [e4]
 simp only [Nat.add_mul] at e ⊢
 omega
theorem mul_small {B c o x y:Nat} (h1:c < B) (h2:o < B) (h3:x < B) (h4:y < B):(c+o+x * y) / B < B∧c+o+x * y < B * B:=by
 have h5:x * y≤(B - 1) * (B - 1):=Nat.mul_le_mul (by omega) (by omega)
 have h6:(B - 1) * (B - 1)+(B - 1)+(B - 1)+1=B * B:=by
  obtain ⟨n,rfl⟩:∃ n,B=n+1:=⟨B - 1,by omega⟩
  rw [Nat.add_sub_cancel,Nat.add_mul,Nat.mul_add]
  omega
 have h7:c+o+x * y < B * B:=by omega
 exact ⟨Nat.div_lt_of_lt_mul h7,h7⟩
def dgN (B:Nat):Nat→Nat→List Nat
 |0,_ => []
 |k+1,n=>n % B::dgN B k (n / B)
theorem dgN_len (B:Nat):∀ k n:Nat,(dgN B k n).length=k
 |0,_=>rfl
 |k+1,n=>by rw [dgN,List.length_cons,dgN_len B k]
theorem dgN_dig {B:Nat} (hB:0 < B):∀ k n:Nat,Dig B (dgN B k n)
 |0,_=>dig_nil B
 |k+1,n=>Dig.cons (Nat.mod_lt _ hB) (dgN_dig hB k _)
theorem dgN_vl {B:Nat} (hB:0 < B):∀ l:List Nat,Dig B l→dgN B l.length (vl B l)=l
 |[],_=>rfl
 |d::l,h=>by
  have h0:d < B:=h d (by simp)
  rw [List.length_cons,dgN,vl,Nat.add_mul_mod_self_left,Nat.mod_eq_of_lt h0,Nat.add_mul_div_left _ _ hB,Nat.div_eq_of_lt h0,Nat.zero_add,dgN_vl hB l fun x hx=>h x (by simp [hx])]
theorem dgN_eq {B n k:Nat} (hB:0 < B) {l:List Nat} (h:Dig B l) (hl:l.length=k) (hv:vl B l=n):l=dgN B k n:=by
 rw [← hl,← hv,dgN_vl hB l h]
theorem vl_dgN {B:Nat} (hB:2≤B):∀ {k n:Nat},n < B ^ k→vl B (dgN B k n)=n
 |0,n,h=>by
  rw [Nat.pow_zero] at h
  rw [dgN,vl]
  omega
 |k+1,n,h=>by
  have h1:n / B < B ^ k:=Nat.div_lt_of_lt_mul (by rw [Nat.pow_succ,Nat.mul_comm] at h;exact h)
  rw [dgN,vl,vl_dgN hB h1]
  exact Nat.mod_add_div n B
theorem pow_le_pow' {B a b:Nat} (hB:2≤B) (h:a≤b):B ^ a≤B ^ b:=Nat.pow_le_pow_right (by omega) h
theorem dg_cmp_len {B m n:Nat} (hB:2≤B) (h:(dg B m).length ≠ (dg B n).length):(0≤((dg B m).length:Int) - (dg B n).length↔n≤m):=by
 rcases Nat.lt_or_gt_of_ne h with h|h
 ·have:=dg_len hB h
  omega
 ·have:=dg_len hB h
  omega
theorem dg_nil_iff {B n:Nat} (hB:2≤B):dg B n = []↔n=0:=by
 constructor
 ·intro h
  rw [← vl_dg hB n,h]
  rfl
 ·rintro rfl
  exact dg_zero B
theorem dg_len_iff {B n:Nat} (hB:2≤B):(dg B n).length=0↔n=0:=by
 rw [List.length_eq_zero_iff,dg_nil_iff hB]
def sgn (z:Int):Int:=if z < 0 then -1 else if z=0 then 0 else 1
open Go.RowKit
set_option maxRecDepth 100000
set_option maxHeartbeats 1000000
def WB:Nat:=4294967296
theorem WB2:2≤WB:=by unfold WB;omega
def u32R (d:Nat):List D := [.int .u32 d]
def wC (z:Int):List D := [.bool (decide (z < 0)),.sl 0 1 ((dg WB z.natAbs).map u32R)]
theorem idx_u32 {l:List Nat} {i:Int} {j d:Nat} (h:l[j]?=some d) (hi:i=j):0≤i∧(l.map u32R)[i.toNat]?=some [.int .u32 d]:=by
 subst hi
 exact ⟨by omega,by rw [Int.toNat_natCast,List.getElem?_map,h];rfl⟩
theorem u32_wrap (n:Nat):IntKind.u32.wrap n=((n % WB:Nat):Int):=by
 unfold WB
 rw [IntKind.wrap_u32]
 omega
theorem trimmed_sem (l:List Nat) (hl:l.length≤1000) (hd:Dig WB l):Sem Tryz.prog 119 [.sl 0 1 (l.map u32R)] (.sl 0 1 ((dg WB (vl WB l)).map u32R)):=by
 obtain ⟨t,ht⟩:∃ t,t=dg WB (vl WB l):=⟨_,rfl⟩
 rw [← ht]
 refine si [] Tryz.func119 ?_
 repeat'((conv=>whnf);first|(try(first|apply eN|apply eI|apply eC);conv=>whnf);apply sD;(focus(try intro hc;have hc0:=hc;(try simp only[SPLT]at hc);try refine and0 ?_);first|exact sideG)|apply rR|apply rE|apply rH| (apply cD<;>intro hb<;>(try simp only[SPLT]at hb)<;>try exact noB))
 all_goals try exact false
 refine loop_go (M:=fun t=>mem t []) hT hM (fun j:Nat => [(0,.sl 0 1 ((l.take j).map u32R))]) (fun j=>j≤l.length∧vl WB (l.take j)=vl WB l) (fun j=>j) (l.length) ?_ ?_ ?_
 ·(conv=>whnf)
  refine ⟨?_,by rfl⟩
  repeat' ((conv=>whnf);first|exact endF|(exact dle_sl (by rw [List.take_length]))|exact endF2|with_reducible apply dC)
 ·exact ⟨Nat.le_refl _,by rw [List.take_length]⟩
 ·rintro j ⟨hj,hv⟩
  have hjl:((l.take j).map u32R).length=j:=by rw [List.length_map,List.length_take];omega
  have hjt:(l.take j).length=j:=by rw [List.length_take];omega
  obtain ⟨d,hx⟩:∃ d,0 < j→l[j - 1]?=some d:=⟨l[j - 1]?.getD 0,fun h=>by rw [List.getElem?_eq_getElem (by omega)];rfl⟩
  have hx2:0 < j→(l.take j)[j - 1]?=some d:=fun h=>by rw [List.getElem?_take_of_lt (by omega)];exact hx h
  repeat'((conv=>whnf);first|(try(first|apply eN|apply eI|apply eC);conv=>whnf);apply sD;(focus(try intro hc;have hc0:=hc;(try simp only[SPLT]at hc);try refine and0 ?_);first|(exact idx_u32 (hx2 (by omega)) (by omega))|exact sideG)|apply rR|apply rE|apply rH| (apply cD<;>intro hb<;>(try simp only[SPLT]at hb)<;>try exact noB))
  all_goals try exact false
  ·have hpos:0 < j:=by omega
   have hd0:d=0:=by omega
   subst hd0
   refine ⟨j - 1,⟨by omega,?_⟩,by omega,?_⟩
   ·rw [← hv]
    have:=trim_step (B:=WB) (hx hpos)
    rw [show j - 1+1=j by omega] at this
    exact this.symm
   ·(conv=>whnf)
    refine ⟨?_,by rfl⟩
    repeat' ((conv=>whnf);first|exact endF|(exact dle_sl (by simp only [hjl,Int.toNat_zero,List.drop_zero];rw [show ((j:Int) - 1).toNat=j - 1 by omega,← List.map_take,List.take_take,Nat.min_eq_left (by omega)]))|exact endF2|with_reducible apply dC)
  ·repeat' ((conv=>whnf);first|exact endR|with_reducible first|apply And.intro|apply oR|apply oN|apply dC)
   all_goals (conv=>whnf)
   refine rle_sl ?_
   rw [ht,trim_exit WB2 hd hj hv ?_]
   rcases Nat.eq_zero_or_pos j with h|h
   ·exact .inl h
   ·exact .inr ⟨d,hx h,by rintro rfl;simp [hjt] at hb;omega⟩
def madeN (neg:Bool) (l:List Nat):List D := [.bool (neg && decide (0 < ((dg WB (vl WB l)).length:Int))),.sl 0 1 ((dg WB (vl WB l)).map u32R)]
theorem made_sem (neg:Bool) (l:List Nat) (hl:l.length≤1000) (hd:Dig WB l):Sem Tryz.prog 92 [.bool neg,.sl 0 1 (l.map u32R)] (.agg (madeN neg l)):=by
 have h:=trimmed_sem l hl hd
 unfold madeN
 generalize dg WB (vl WB l)=t at h ⊢
 refine si [4] Tryz.func92 ?_
 repeat'((conv=>whnf);first|(try(first|apply eN|apply eI|apply eC);conv=>whnf);apply sD;(focus(try intro hc;have hc0:=hc;(try simp only[SPLT]at hc);try refine and0 ?_);first|exact gx h|(refine gx (trimmed_sem ?_ ?_ ?_)<;>exact pre)|exact sideG)|apply rR|apply rE|apply rH| (apply cD<;>intro hb<;>(try simp only[SPLT]at hb)<;>try exact noB))
 all_goals try exact false
 repeat' ((conv=>whnf);first|exact endR|with_reducible first|apply And.intro|apply oR|apply oN|apply dC)
 all_goals (conv=>whnf)
 (first|refine rle_agg ?_|refine dle_agg ?_|skip)
 repeat' (first|exact endF|(exact dle_bool (by simp))|exact endF2|with_reducible apply dC|with_reducible apply dle_agg)
theorem madeN_of {neg:Bool} {l:List Nat} {z:Int} (hv:vl WB l=z.natAbs) (hs:z < 0→neg=true) (hp:0 < z→neg=false):madeN neg l=wC z:=by
 unfold madeN wC
 rw [hv]
 congr 2
 rcases Int.lt_trichotomy z 0 with h|rfl|h
 ·rw [hs h,Bool.true_and]
  have:(dg WB z.natAbs).length ≠ 0:=fun e=>by
   have:=(dg_len_iff WB2).1 e
   omega
  rw [decide_eq_true h,decide_eq_true (by omega)]
 ·rw [show (0:Int).natAbs=0 from rfl,dg_zero]
  simp
 ·rw [hp h,Bool.false_and,decide_eq_false (by omega)]
theorem of_sem (n:Int) (h0 : -9223372036854775808≤n) (h1:n≤9223372036854775807):Sem Tryz.prog 60 [.int .i64 n] (.agg (wC n)):=by
 have hm:=made_sem (decide (n < 0)) [n.natAbs % WB,n.natAbs / WB] (by simp) (by
  intro d hd
  simp only [List.mem_cons,List.not_mem_nil,or_false] at hd
  rcases hd with rfl|rfl
  ·exact Nat.mod_lt _ (by unfold WB;omega)
  ·unfold WB;omega)
 rw [madeN_of (z:=n) (by simp [vl];exact Nat.mod_add_div _ _) (by simp) (by simp;omega)] at hm
 obtain ⟨N,hN⟩:∃ N,N=n.natAbs:=⟨_,rfl⟩
 rw [← hN] at hm
 have a3:IntKind.u32.wrap (N:Int)=((N % WB:Nat):Int):=u32_wrap N
 have a4:(N:Int) / 2 ^ Int.toNat 32=((N / WB:Nat):Int):=by unfold WB;show (N:Int) / 4294967296=_;omega
 have a5:IntKind.u32.wrap ((N / WB:Nat):Int)=((N / WB:Nat):Int):=by
  rw [u32_wrap,Nat.mod_eq_of_lt]
  unfold WB
  omega
 by_cases hn:n < 0
 ·have a1:IntKind.u64.wrap n=18446744073709551616 - (N:Int):=by rw [IntKind.wrap_u64];omega
  have a2:IntKind.u64.wrap (0 - (18446744073709551616 - (N:Int)))=(N:Int):=by rw [IntKind.wrap_u64];omega
  refine si [2] Tryz.func60 ?_
  repeat'((conv=>whnf);first|(try(first|apply eN|apply eI|apply eT|apply eC);conv=>whnf);apply sD;(focus first|(exact a1)|(exact a2)|(exact a3)|(exact a5)|(exact ⟨by decide,by decide,a4⟩)|exact gx hm|(refine gx (made_sem ?_ ?_ ?_ ?_)<;>exact pre)|exact side)|apply rR|apply rE|apply rH| (apply cD<;>intro hb<;>(try simp only[SPLT]at hb)<;>try exact noB))
  all_goals try exact false
  repeat' ((conv=>whnf);first|exact endR|with_reducible first|apply And.intro|apply oR|apply oN|apply dC)
  all_goals (conv=>whnf)
  (first|refine rle_agg ?_|refine dle_agg ?_|skip)
  repeat' (first|exact endF|exact endF2|with_reducible apply dC|with_reducible apply dle_agg)
  exact DLes.refl _
 ·have a1:IntKind.u64.wrap n=(N:Int):=by rw [IntKind.wrap_u64];omega
  refine si [2] Tryz.func60 ?_
  repeat'((conv=>whnf);first|(try(first|apply eN|apply eI|apply eT|apply eC);conv=>whnf);apply sD;(focus first|(exact a1)|(exact a3)|(exact a5)|(exact ⟨by decide,by decide,a4⟩)|exact gx hm|(refine gx (made_sem ?_ ?_ ?_ ?_)<;>exact pre)|exact side)|apply rR|apply rE|apply rH| (apply cD<;>intro hb<;>(try simp only[SPLT]at hb)<;>try exact noB))
  all_goals try exact false
  repeat' ((conv=>whnf);first|exact endR|with_reducible first|apply And.intro|apply oR|apply oN|apply dC)
  all_goals (conv=>whnf)
  (first|refine rle_agg ?_|refine dle_agg ?_|skip)
  repeat' (first|exact endF|exact endF2|with_reducible apply dC|with_reducible apply dle_agg)
  exact DLes.refl _
theorem sign_sem (z:Int):Sem Tryz.prog 91 [.agg (wC z)] (.int .i64 (sgn z)):=by
 have hl:=dg_len_iff (n:=z.natAbs) WB2
 unfold wC
 generalize dg WB z.natAbs=l at hl
 refine si [] Tryz.func91 ?_
 repeat'((conv=>whnf);first|(try(first|apply eN|apply eI|apply eC);conv=>whnf);apply sD;(focus first|exact side)|apply rR|apply rE|apply rH| (apply cD<;>intro hb<;>(try simp only[SPLT]at hb)<;>try exact noB))
 all_goals try exact false
 ·repeat' ((conv=>whnf);first|exact endR|with_reducible first|apply And.intro|apply oR|apply oN|apply dC)
  all_goals (conv=>whnf)
  exact rle_int (by unfold sgn;rw [if_pos (by assumption)])
 ·repeat' ((conv=>whnf);first|exact endR|with_reducible first|apply And.intro|apply oR|apply oN|apply dC)
  all_goals (conv=>whnf)
  exact rle_int (by unfold sgn;rw [if_neg (by omega),if_pos (by omega)])
 ·repeat' ((conv=>whnf);first|exact endR|with_reducible first|apply And.intro|apply oR|apply oN|apply dC)
  all_goals (conv=>whnf)
  exact rle_int (by unfold sgn;rw [if_neg (by omega),if_neg (by omega)])
def cmpN (a b:List Nat):Int:=if a.length ≠ b.length then (a.length:Int) - b.length else if topD a b < 0 then -1 else if topD a b=0 then 0 else 1
theorem cmpN_le {m n:Nat}:0≤cmpN (dg WB m) (dg WB n)↔n≤m:=by
 unfold cmpN
 split
 ·rename_i h
  exact dg_cmp_len WB2 h
 ·rename_i h
  obtain ⟨t1,t2⟩:=topD_vl (B:=WB) (dg_dig WB2 m) (dg_dig WB2 n) (by simpa using h)
  rw [vl_dg WB2,vl_dg WB2] at t1 t2
  split
  ·omega
  ·split<;>omega
theorem topD_drop {a b:List Nat} {i x y:Nat} (h1:a[i]?=some x) (h2:b[i]?=some y) (h:topD (a.drop (i+1)) (b.drop (i+1))=0):topD (a.drop i) (b.drop i)=(x:Int) - y:=by
 rw [topD_at h1 h2,h]
 rfl
theorem topD_from {a b:List Nat}:∀ i:Nat,topD (a.drop i) (b.drop i) ≠ 0→topD a b=topD (a.drop i) (b.drop i)
 |0,_=>by rw [List.drop_zero,List.drop_zero]
 |i+1,h=>by
  have h0:a.drop (i+1) ≠ []∧b.drop (i+1) ≠ []:=by
   constructor
   ·intro e;rw [e] at h;simp [topD] at h
   ·intro e;rw [e] at h;revert h;cases a.drop (i+1)<;>simp [topD]
  have ha:i < a.length:=by
   rcases Nat.lt_or_ge i a.length with g|g
   ·exact g
   ·exact absurd (List.drop_of_length_le (by omega)) h0.1
  have hb:i < b.length:=by
   rcases Nat.lt_or_ge i b.length with g|g
   ·exact g
   ·exact absurd (List.drop_of_length_le (by omega)) h0.2
  have e:=topD_at (List.getElem?_eq_getElem ha) (List.getElem?_eq_getElem hb)
  rw [if_pos h] at e
  rw [topD_from i (by rw [e];exact h),e]
theorem compare_sem (a b:List Nat) (ha:a.length≤1000) (hb0:b.length≤1000):Sem Tryz.prog 142 [.sl 0 1 (a.map u32R),.sl 0 1 (b.map u32R)] (.int .i64 (cmpN a b)):=by
 have hla:(a.map u32R).length=a.length:=List.length_map _
 have hlb:(b.map u32R).length=b.length:=List.length_map _
 have hq:=topD_from (a:=a) (b:=b)
 unfold cmpN
 by_cases hne:a.length ≠ b.length
 ·rw [if_pos hne]
  refine si [] Tryz.func142 ?_
  repeat'((conv=>whnf);first|(try(first|apply eN|apply eI|apply eC);conv=>whnf);apply sD;(focus first|exact side)|(first|apply dG|apply kB);kernel_rfl|apply rR|apply rE|apply rH| (apply cD<;>intro hb<;>(try simp only[SPLT]at hb)<;>try exact noB))
  all_goals try exact false
  repeat' ((conv=>whnf);first|exact endR|with_reducible first|apply And.intro|apply oR|apply oN|apply dC)
  all_goals (conv=>whnf)
  exact rle_int (by rw [hla,hlb])
 ·rw [if_neg hne]
  have hd0:topD (a.drop 0) (b.drop 0)=topD a b:=by rw [List.drop_zero,List.drop_zero]
  generalize topD a b=td at hq hd0 ⊢
  refine si [] Tryz.func142 ?_
  repeat'((conv=>whnf);first|(try(first|apply eN|apply eI|apply eC);conv=>whnf);apply sD;(focus first|exact side)|(first|apply dG|apply kB);kernel_rfl|apply rR|apply rE|apply rH| (apply cD<;>intro hb<;>(try simp only[SPLT]at hb)<;>try exact noB))
  all_goals try exact false
  refine loop_go (M:=fun t=>mem t []) hT hM (fun j:Nat => [(5,.int .i64 ((j:Int) - 1))]) (fun j=>j≤a.length∧topD (a.drop j) (b.drop j)=0) (fun j=>j) (a.length) ?_ ?_ ?_
  ·(conv=>whnf)
   refine ⟨?_,by rfl⟩
   repeat' ((conv=>whnf);first|exact endF|(exact dle_int (by omega))|exact endF2|with_reducible apply dC)
  ·exact ⟨Nat.le_refl _,by rw [List.drop_of_length_le (Nat.le_refl _)];simp [topD]⟩
  ·rintro j ⟨hj,hv⟩
   rcases Nat.eq_zero_or_pos j with rfl|hpos
   ·repeat'((conv=>whnf);first|(try(first|apply eN|apply eI|apply eC);conv=>whnf);apply sD;(focus first|exact side)|(first|apply dG|apply kB);kernel_rfl|apply rR|apply rE|apply rH| (apply cD<;>intro hb<;>(try simp only[SPLT]at hb)<;>try exact noB))
    all_goals try exact false
    repeat' ((conv=>whnf);first|exact endR|with_reducible first|apply And.intro|apply oR|apply oN|apply dC)
    all_goals (conv=>whnf)
    rw [hd0] at hv
    exact rle_int (by rw [if_neg (by omega),if_pos hv])
   ·obtain ⟨i,rfl⟩:∃ i,j=i+1:=⟨j - 1,by omega⟩
    obtain ⟨x,hx⟩:∃ x,a[i]?=some x:=⟨_,List.getElem?_eq_getElem (by omega)⟩
    obtain ⟨y,hy⟩:∃ y,b[i]?=some y:=⟨_,List.getElem?_eq_getElem (by omega)⟩
    have hd:=topD_drop hx hy hv
    have hq:=hq i
    rw [hd] at hq
    repeat'((conv=>whnf);first|(try(first|apply eN|apply eI|apply eC);conv=>whnf);apply sD;(focus first|(exact idx_u32 hx (by omega))|(exact idx_u32 hy (by omega))|exact side)|(first|apply dG|apply kB);kernel_rfl|apply rR|apply rE|apply rH| (apply cD<;>intro hb<;>(try simp only[SPLT]at hb)<;>try exact noB))
    all_goals try exact false
    ·repeat' ((conv=>whnf);first|exact endR|with_reducible first|apply And.intro|apply oR|apply oN|apply dC)
     all_goals (conv=>whnf)
     exact rle_int (by rw [if_pos (by have:=hq (by omega);omega)])
    ·repeat' ((conv=>whnf);first|exact endR|with_reducible first|apply And.intro|apply oR|apply oN|apply dC)
     all_goals (conv=>whnf)
     exact rle_int (by rw [if_neg (by have:=hq (by omega);omega),if_neg (by have:=hq (by omega);omega)])
    ·refine ⟨i,⟨by omega,by rw [hd];omega⟩,by omega,?_⟩
     (conv=>whnf)
     refine ⟨?_,by rfl⟩
     repeat' ((conv=>whnf);first|exact endF|(exact dle_int (by omega))|exact endF2|with_reducible apply dC)
theorem u64_nat (n:Nat) (h:n < 18446744073709551616):IntKind.u64.wrap (n:Int)=n:=by rw [IntKind.wrap_u64];omega
theorem u64_add (a b:Nat) (h:a+b < 18446744073709551616):IntKind.u64.wrap ((a:Int)+b)=((a+b:Nat):Int):=by rw [IntKind.wrap_u64];omega
theorem u64_shr (n:Nat):0≤(32:Int)∧(32:Int)≤IntKind.u64.bits∧(n:Int) / 2 ^ (32:Int).toNat=((n / WB:Nat):Int):=⟨by decide,by decide,by unfold WB;show (n:Int) / 4294967296=_;omega⟩
theorem sum_sem (a b:List Nat) (ha:a.length≤500) (hb0:b.length≤500) (da:Dig WB a) (db:Dig WB b):Sem Tryz.prog 141 [.sl 0 1 (a.map u32R),.sl 0 1 (b.map u32R)] (.sl 2 1 ((dgN WB (max a.length b.length+1) (vl WB a+vl WB b)).map u32R)):=by
 have hla:(a.map u32R).length=a.length:=List.length_map _
 have hlb:(b.map u32R).length=b.length:=List.length_map _
 refine si [] Tryz.func141 ?_
 repeat'((conv=>whnf);first|(try(first|apply eN|apply eI|apply eT|apply eC);conv=>whnf);apply sD;(focus first|exact side)|apply rR|apply rE|apply rH| (apply cD<;>intro hb<;>(try simp only[SPLT]at hb)<;>try exact noB))
 all_goals try exact false
 ·refine loop_go (M:=fun t=>mem t []) hT hM (fun x:Nat × Nat × List Nat => [(22,.int .i64 x.1),(6,.int .u64 x.2.1),(5,.sl 2 1 (x.2.2.map u32R))]) (fun x=>x.1≤b.length∧x.2.2.length=x.1∧Dig WB x.2.2∧x.2.1≤1∧vl WB x.2.2+WB ^ x.1 * (x.2.1+vl WB (b.drop x.1)+vl WB (a.drop x.1))=vl WB a+vl WB b) (fun x=>b.length - x.1) ((0,0,[])) ?_ ?_ ?_
  ·exact finF
  ·exact ⟨Nat.zero_le _,rfl,dig_nil _,Nat.zero_le _,by simp only [List.drop_zero,Nat.pow_zero,vl];omega⟩
  ·rintro ⟨i,c,out⟩ ⟨hi,hol,hod,hc,hv⟩
   dsimp only at hi hol hod hc hv ⊢
   have hom:(out.map u32R).length=out.length:=List.length_map _
   cases hx:b[i]? with
   |none=>
    have hm:=List.getElem?_eq_none_iff.1 hx
    obtain rfl:i=b.length:=by omega
    have w4:=u32_wrap c
    repeat'((conv=>whnf);first|(try(first|apply eN|apply eI|apply eT|apply eC);conv=>whnf);apply sD;(focus first|(exact w4)|exact side)|apply rR|apply rE|apply rH| (apply cD<;>intro hb<;>(try simp only[SPLT]at hb)<;>try exact noB))
    all_goals try exact false
    repeat' ((conv=>whnf);first|exact endR|with_reducible first|apply And.intro|apply oR|apply oN|apply dC)
    all_goals (conv=>whnf)
    refine rle_sl ?_
    rw [List.drop_of_length_le (Nat.le_refl _),List.drop_of_length_le (by omega)] at hv
    simp only [vl,Nat.add_zero] at hv
    have hcw:c % WB=c:=Nat.mod_eq_of_lt (by unfold WB;omega)
    have he:out ++ [c]=dgN WB (max a.length b.length+1) (vl WB a+vl WB b):=dgN_eq (by unfold WB;omega) (hod.app (Dig.cons (by unfold WB;omega) (dig_nil _))) (by simp;omega) (by rw [vl_snoc,hol,hv])
    rw [← he,List.map_append,hcw]
    rfl
   |some x=>
    have hlt:=(gLt hx)
    have hxB:x < WB:=db x (gMem hx)
    have hxB':x < 4294967296:=hxB
    rw [vl_at hx] at hv
    have w1:=u64_nat x (by omega)
    have w2:=u64_add c x (by omega)
    cases hy:a[i]? with
    |none=>
     have hm:=List.getElem?_eq_none_iff.1 hy
     rw [List.drop_of_length_le (show a.length≤i by omega)] at hv
     have w4:=u32_wrap (c+x)
     have w5:=u64_shr (c+x)
     repeat'((conv=>whnf);first|(try(first|apply eN|apply eI|apply eT|apply eC);conv=>whnf);apply sD;(focus first|(exact idx_u32 hx rfl)|(exact w1)|(exact w2)|(exact w4)|(exact w5)|exact side)|apply rR|apply rE|apply rH| (apply cD<;>intro hb<;>(try simp only[SPLT]at hb)<;>try exact noB))
     all_goals try exact false
     have hs:=add_step (B:=WB) (i:=i) (d:=c+x) (A:=vl WB (b.drop (i+1))) (Y:=0) hol
     refine ⟨(i+1,(c+x) / WB,out ++ [(c+x) % WB]),⟨by dsimp only;omega,by simp [hol],hod.app (Dig.cons (Nat.mod_lt _ (by unfold WB;omega)) (dig_nil _)),by dsimp only;unfold WB;omega,?_⟩,by dsimp only;omega,?_⟩
     ·dsimp only
      rw [List.drop_of_length_le (show a.length≤i+1 by omega)]
      simp only [vl,Nat.mul_zero,Nat.add_zero] at hs hv ⊢
      rw [hs,← hv,Nat.add_assoc]
     ·(conv=>whnf)
      refine ⟨?_,by rfl⟩
      repeat' ((conv=>whnf);first|exact endF|(exact DLe.of_eq (congrArg (D.sl 2 1) (by rw [List.map_append];rfl)))|exact endF2|with_reducible apply dC)
    |some y=>
     have hly:=(gLt hy)
     have hyB:y < WB:=da y (gMem hy)
     have hyB':y < 4294967296:=hyB
     rw [vl_at hy] at hv
     have w6:=u64_nat y (by omega)
     have w3:=u64_add (c+x) y (by omega)
     have w4:=u32_wrap (c+x+y)
     have w5:=u64_shr (c+x+y)
     repeat'((conv=>whnf);first|(try(first|apply eN|apply eI|apply eT|apply eC);conv=>whnf);apply sD;(focus first|(exact idx_u32 hx rfl)|(exact idx_u32 hy rfl)|(exact w1)|(exact w2)|(exact w6)|(exact w3)|(exact w4)|(exact w5)|exact side)|apply rR|apply rE|apply rH| (apply cD<;>intro hb<;>(try simp only[SPLT]at hb)<;>try exact noB))
     all_goals try exact false
     have hs:=add_step (B:=WB) (i:=i) (d:=c+x+y) (A:=vl WB (b.drop (i+1))) (Y:=vl WB (a.drop (i+1))) hol
     refine ⟨(i+1,(c+x+y) / WB,out ++ [(c+x+y) % WB]),⟨by dsimp only;omega,by simp [hol],hod.app (Dig.cons (Nat.mod_lt _ (by unfold WB;omega)) (dig_nil _)),by dsimp only;unfold WB;omega,?_⟩,by dsimp only;omega,?_⟩
     ·dsimp only
      rw [hs,← hv]
      congr 2
      omega
     ·(conv=>whnf)
      refine ⟨?_,by rfl⟩
      repeat' ((conv=>whnf);first|exact endF|(exact DLe.of_eq (congrArg (D.sl 2 1) (by rw [List.map_append];rfl)))|exact endF2|with_reducible apply dC)
 ·refine loop_go (M:=fun t=>mem t []) hT hM (fun x:Nat × Nat × List Nat => [(22,.int .i64 x.1),(6,.int .u64 x.2.1),(5,.sl 2 1 (x.2.2.map u32R))]) (fun x=>x.1≤a.length∧x.2.2.length=x.1∧Dig WB x.2.2∧x.2.1≤1∧vl WB x.2.2+WB ^ x.1 * (x.2.1+vl WB (a.drop x.1)+vl WB (b.drop x.1))=vl WB a+vl WB b) (fun x=>a.length - x.1) ((0,0,[])) ?_ ?_ ?_
  ·exact finF
  ·exact ⟨Nat.zero_le _,rfl,dig_nil _,Nat.zero_le _,by simp only [List.drop_zero,Nat.pow_zero,vl];omega⟩
  ·rintro ⟨i,c,out⟩ ⟨hi,hol,hod,hc,hv⟩
   dsimp only at hi hol hod hc hv ⊢
   have hom:(out.map u32R).length=out.length:=List.length_map _
   cases hx:a[i]? with
   |none=>
    have hm:=List.getElem?_eq_none_iff.1 hx
    obtain rfl:i=a.length:=by omega
    have w4:=u32_wrap c
    repeat'((conv=>whnf);first|(try(first|apply eN|apply eI|apply eT|apply eC);conv=>whnf);apply sD;(focus first|(exact w4)|exact side)|apply rR|apply rE|apply rH| (apply cD<;>intro hb<;>(try simp only[SPLT]at hb)<;>try exact noB))
    all_goals try exact false
    repeat' ((conv=>whnf);first|exact endR|with_reducible first|apply And.intro|apply oR|apply oN|apply dC)
    all_goals (conv=>whnf)
    refine rle_sl ?_
    rw [List.drop_of_length_le (Nat.le_refl _),List.drop_of_length_le (by omega)] at hv
    simp only [vl,Nat.add_zero] at hv
    have hcw:c % WB=c:=Nat.mod_eq_of_lt (by unfold WB;omega)
    have he:out ++ [c]=dgN WB (max a.length b.length+1) (vl WB a+vl WB b):=dgN_eq (by unfold WB;omega) (hod.app (Dig.cons (by unfold WB;omega) (dig_nil _))) (by simp;omega) (by rw [vl_snoc,hol,hv])
    rw [← he,List.map_append,hcw]
    rfl
   |some x=>
    have hlt:=(gLt hx)
    have hxB:x < WB:=da x (gMem hx)
    have hxB':x < 4294967296:=hxB
    rw [vl_at hx] at hv
    have w1:=u64_nat x (by omega)
    have w2:=u64_add c x (by omega)
    cases hy:b[i]? with
    |none=>
     have hm:=List.getElem?_eq_none_iff.1 hy
     rw [List.drop_of_length_le (show b.length≤i by omega)] at hv
     have w4:=u32_wrap (c+x)
     have w5:=u64_shr (c+x)
     repeat'((conv=>whnf);first|(try(first|apply eN|apply eI|apply eT|apply eC);conv=>whnf);apply sD;(focus first|(exact idx_u32 hx rfl)|(exact w1)|(exact w2)|(exact w4)|(exact w5)|exact side)|apply rR|apply rE|apply rH| (apply cD<;>intro hb<;>(try simp only[SPLT]at hb)<;>try exact noB))
     all_goals try exact false
     have hs:=add_step (B:=WB) (i:=i) (d:=c+x) (A:=vl WB (a.drop (i+1))) (Y:=0) hol
     refine ⟨(i+1,(c+x) / WB,out ++ [(c+x) % WB]),⟨by dsimp only;omega,by simp [hol],hod.app (Dig.cons (Nat.mod_lt _ (by unfold WB;omega)) (dig_nil _)),by dsimp only;unfold WB;omega,?_⟩,by dsimp only;omega,?_⟩
     ·dsimp only
      rw [List.drop_of_length_le (show b.length≤i+1 by omega)]
      simp only [vl,Nat.mul_zero,Nat.add_zero] at hs hv ⊢
      rw [hs,← hv,Nat.add_assoc]
     ·(conv=>whnf)
      refine ⟨?_,by rfl⟩
      repeat' ((conv=>whnf);first|exact endF|(exact DLe.of_eq (congrArg (D.sl 2 1) (by rw [List.map_append];rfl)))|exact endF2|with_reducible apply dC)
    |some y=>
     have hly:=(gLt hy)
     have hyB:y < WB:=db y (gMem hy)
     have hyB':y < 4294967296:=hyB
     rw [vl_at hy] at hv
     have w6:=u64_nat y (by omega)
     have w3:=u64_add (c+x) y (by omega)
     have w4:=u32_wrap (c+x+y)
     have w5:=u64_shr (c+x+y)
     repeat'((conv=>whnf);first|(try(first|apply eN|apply eI|apply eT|apply eC);conv=>whnf);apply sD;(focus first|(exact idx_u32 hx rfl)|(exact idx_u32 hy rfl)|(exact w1)|(exact w2)|(exact w6)|(exact w3)|(exact w4)|(exact w5)|exact side)|apply rR|apply rE|apply rH| (apply cD<;>intro hb<;>(try simp only[SPLT]at hb)<;>try exact noB))
     all_goals try exact false
     have hs:=add_step (B:=WB) (i:=i) (d:=c+x+y) (A:=vl WB (a.drop (i+1))) (Y:=vl WB (b.drop (i+1))) hol
     refine ⟨(i+1,(c+x+y) / WB,out ++ [(c+x+y) % WB]),⟨by dsimp only;omega,by simp [hol],hod.app (Dig.cons (Nat.mod_lt _ (by unfold WB;omega)) (dig_nil _)),by dsimp only;unfold WB;omega,?_⟩,by dsimp only;omega,?_⟩
     ·dsimp only
      rw [hs,← hv]
      congr 2
      omega
     ·(conv=>whnf)
      refine ⟨?_,by rfl⟩
      repeat' ((conv=>whnf);first|exact endF|(exact DLe.of_eq (congrArg (D.sl 2 1) (by rw [List.map_append];rfl)))|exact endF2|with_reducible apply dC)
theorem less_digit {x y w:Nat} (hx:x < 4294967296) (hy:y < 4294967296) (hw:w≤1):∃ d w' p:Nat,d < WB∧w'≤1∧d+y+w=x+WB * w'∧
  IntKind.u64.wrap (IntKind.u64.wrap ((x:Int) - w) - y)=(p:Int)∧IntKind.u32.wrap (p:Int)=(d:Int)∧(0≤(32:Int)∧(32:Int)≤IntKind.u64.bits∧(p:Int) / 2 ^ (32:Int).toNat=((p / 4294967296:Nat):Int))∧bitsI .and .u64 ((p / 4294967296:Nat):Int) 1=(w':Int):=by
 by_cases h:w+y≤x
 ·refine ⟨x - w - y,0,x - w - y,by unfold WB;omega,by omega,by omega,?_,?_,⟨by decide,by decide,by show _ / (4294967296:Int)=_;omega⟩,?_⟩
  ·rw [IntKind.wrap_u64,IntKind.wrap_u64];omega
  ·rw [IntKind.wrap_u32];omega
  ·rw [show (x - w - y) / 4294967296=0 by omega];rfl
 ·refine ⟨x+4294967296 - w - y,1,18446744073709551616+x - w - y,by unfold WB;omega,by omega,by unfold WB;omega,?_,?_,⟨by decide,by decide,by show _ / (4294967296:Int)=_;omega⟩,?_⟩
  ·rw [IntKind.wrap_u64,IntKind.wrap_u64];omega
  ·rw [IntKind.wrap_u32];omega
  ·rw [show (18446744073709551616+x - w - y) / 4294967296=4294967295 by omega];rfl
theorem less_sem (a b:List Nat) (ha:a.length≤500) (hb0:b.length≤a.length) (da:Dig WB a) (db:Dig WB b) (hle:vl WB b≤vl WB a):Sem Tryz.prog 143 [.sl 0 1 (a.map u32R),.sl 0 1 (b.map u32R)] (.sl 0 1 ((dg WB (vl WB a - vl WB b)).map u32R)):=by
 have hla:(a.map u32R).length=a.length:=List.length_map _
 have hlb:(b.map u32R).length=b.length:=List.length_map _
 refine si [] Tryz.func143 ?_
 repeat'((conv=>whnf);first|(try(first|apply eN|apply eI|apply eT|apply eC);conv=>whnf);apply sD;(focus first|(refine gx (trimmed_sem ?_ ?_ ?_)<;>exact pre)|exact side)|apply rR|apply rE|apply rH| (apply cD<;>intro hb<;>(try simp only[SPLT]at hb)<;>try exact noB))
 all_goals try exact false
 refine loop_go (M:=fun t=>mem t []) hT hM (fun x:Nat × Nat × List Nat => [(15,.int .i64 x.1),(6,.int .u64 x.2.1),(5,.sl 2 1 (x.2.2.map u32R))]) (fun x=>x.1≤a.length∧x.2.2.length=x.1∧Dig WB x.2.2∧x.2.1≤1∧vl WB x.2.2+WB ^ x.1 * vl WB (a.drop x.1)=(vl WB a - vl WB b)+WB ^ x.1 * (x.2.1+vl WB (b.drop x.1))) (fun x=>a.length - x.1) ((0,0,[])) ?_ ?_ ?_
 ·exact finF
 ·exact ⟨Nat.zero_le _,rfl,dig_nil _,Nat.zero_le _,by simp only [List.drop_zero,Nat.pow_zero,vl];omega⟩
 ·rintro ⟨i,w,out⟩ ⟨hi,hol,hod,hw,hv⟩
  dsimp only at hi hol hod hw hv ⊢
  have hom:(out.map u32R).length=out.length:=List.length_map _
  cases hx:a[i]? with
  |none=>
   have hm:=List.getElem?_eq_none_iff.1 hx
   obtain rfl:i=a.length:=by omega
   have ht:=trimmed_sem out (by omega) hod
   rw [List.drop_of_length_le (Nat.le_refl _)] at hv
   simp only [vl,Nat.mul_zero,Nat.add_zero] at hv
   have hlt:=vl_lt hod
   rw [hol] at hlt
   have hz:w+vl WB (b.drop a.length)=0:=by
    rcases Nat.eq_zero_or_pos (w+vl WB (b.drop a.length)) with h|h
    ·exact h
    ·have:WB ^ a.length * 1≤WB ^ a.length * (w+vl WB (b.drop a.length)):=Nat.mul_le_mul_left _ h
     omega
   rw [hz,Nat.mul_zero,Nat.add_zero] at hv
   rw [hv] at ht
   repeat'((conv=>whnf);first|(try(first|apply eN|apply eI|apply eT|apply eC);conv=>whnf);apply sD;(focus first|exact gx ht|(refine gx (trimmed_sem ?_ ?_ ?_)<;>exact pre)|exact side)|apply rR|apply rE|apply rH| (apply cD<;>intro hb<;>(try simp only[SPLT]at hb)<;>try exact noB))
   all_goals try exact false
   exact finR
  |some x=>
   have hlt:=(gLt hx)
   have hxB:x < WB:=da x (gMem hx)
   have hxB':x < 4294967296:=hxB
   rw [vl_at hx] at hv
   have w1:=u64_nat x (by omega)
   cases hy:b[i]? with
   |none=>
    have hm:=List.getElem?_eq_none_iff.1 hy
    rw [List.drop_of_length_le (show b.length≤i by omega)] at hv
    obtain ⟨d,w',p,d1,d2,d3,d4,d5,d6,d7⟩:=less_digit (y:=0) hxB' (by omega) hw
    have d4':IntKind.u64.wrap ((x:Int) - w)=(p:Int):=by
     rw [Int.natCast_zero,Int.sub_zero] at d4
     rw [← d4,IntKind.wrap_u64,IntKind.wrap_u64]
     omega
    repeat'((conv=>whnf);first|(try(first|apply eN|apply eI|apply eT|apply eC);conv=>whnf);apply sD;(focus first|(exact idx_u32 hx rfl)|(exact w1)|(exact d4')|(exact d5)|(exact d6)|(exact d7)|(refine gx (trimmed_sem ?_ ?_ ?_)<;>exact pre)|exact side)|apply rR|apply rE|apply rH| (apply cD<;>intro hb<;>(try simp only[SPLT]at hb)<;>try exact noB))
    all_goals try exact false
    have hs:=sub_step (B:=WB) (i:=i) (x:=x) (y:=0) (d:=d) (w:=w) (w':=w') (A:=vl WB (a.drop (i+1))) (Y:=0) (D:=vl WB a - vl WB b) hol (by rw [hv];simp [vl]) d3
    refine ⟨(i+1,w',out ++ [d]),⟨by dsimp only;omega,by simp [hol],hod.app (Dig.cons d1 (dig_nil _)),d2,?_⟩,by dsimp only;omega,?_⟩
    ·dsimp only
     rw [List.drop_of_length_le (show b.length≤i+1 by omega)]
     exact hs
    ·(conv=>whnf)
     refine ⟨?_,by rfl⟩
     repeat' ((conv=>whnf);first|exact endF|(exact DLe.of_eq (congrArg (D.sl 2 1) (by rw [List.map_append];rfl)))|exact endF2|with_reducible apply dC)
   |some y=>
    have hly:=(gLt hy)
    have hyB:y < WB:=db y (gMem hy)
    have hyB':y < 4294967296:=hyB
    rw [vl_at hy] at hv
    have w6:=u64_nat y (by omega)
    obtain ⟨d,w',p,d1,d2,d3,d4,d5,d6,d7⟩:=less_digit hxB' hyB' hw
    have d8:∃ z:Int,IntKind.u64.wrap ((x:Int) - w)=z:=⟨_,rfl⟩
    obtain ⟨z,d8⟩:=d8
    rw [d8] at d4
    repeat'((conv=>whnf);first|(try(first|apply eN|apply eI|apply eT|apply eC);conv=>whnf);apply sD;(focus first|(exact idx_u32 hx rfl)|(exact idx_u32 hy rfl)|(exact w1)|(exact w6)|(exact d8)|(exact d4)|(exact d5)|(exact d6)|(exact d7)|(refine gx (trimmed_sem ?_ ?_ ?_)<;>exact pre)|exact side)|apply rR|apply rE|apply rH| (apply cD<;>intro hb<;>(try simp only[SPLT]at hb)<;>try exact noB))
    all_goals try exact false
    have hs:=sub_step (B:=WB) (i:=i) (x:=x) (y:=y) (d:=d) (w:=w) (w':=w') (A:=vl WB (a.drop (i+1))) (Y:=vl WB (b.drop (i+1))) (D:=vl WB a - vl WB b) hol (by rw [hv];congr 2;omega) d3
    refine ⟨(i+1,w',out ++ [d]),⟨by dsimp only;omega,by simp [hol],hod.app (Dig.cons d1 (dig_nil _)),d2,hs⟩,by dsimp only;omega,?_⟩
    (conv=>whnf)
    refine ⟨?_,by rfl⟩
    repeat' ((conv=>whnf);first|exact endF|(exact DLe.of_eq (congrArg (D.sl 2 1) (by rw [List.map_append];rfl)))|exact endF2|with_reducible apply dC)
def WOk (k:Nat) (z:Int):Prop:=z.natAbs < WB ^ k
theorem WOk.len {k:Nat} {z:Int} (h:WOk k z):(dg WB z.natAbs).length≤k:=dg_le WB2 h
theorem minus_sem (z:Int) (h:WOk 400 z):Sem Tryz.prog 117 [.agg (wC z)] (.agg (wC (-z))):=by
 have hm:=made_sem (!decide (z < 0)) (dg WB z.natAbs) (Nat.le_trans h.len (by omega)) (dg_dig WB2 _)
 rw [madeN_of (z := -z) (by rw [vl_dg WB2];omega) (by intro h;simp;omega) (by intro h;simp;omega)] at hm
 unfold wC at hm ⊢
 refine si [2] Tryz.func117 ?_
 repeat'((conv=>whnf);first|(try(first|apply eN|apply eI|apply eC);conv=>whnf);apply sD;(focus first|exact gx hm|(refine gx (made_sem ?_ ?_ ?_ ?_)<;>exact pre)|exact side)|apply rR|apply rE|apply rH| (apply cD<;>intro hb<;>(try simp only[SPLT]at hb)<;>try exact noB))
 all_goals try exact false
 exact finR
theorem plus_sem (x y:Int) (hx:WOk 400 x) (hy:WOk 400 y):Sem Tryz.prog 116 [.agg (wC x),.agg (wC y)] (.agg (wC (x+y))):=by
 have lx:(dg WB x.natAbs).length≤500:=Nat.le_trans hx.len (by omega)
 have ly:(dg WB y.natAbs).length≤500:=Nat.le_trans hy.len (by omega)
 have dx:=dg_dig WB2 x.natAbs
 have dy:=dg_dig WB2 y.natAbs
 have hvx:=vl_dg WB2 x.natAbs
 have hvy:=vl_dg WB2 y.natAbs
 by_cases hs:decide (x < 0)=decide (y < 0)
 ·have h1:=(sum_sem _ _ lx ly dx dy).frozen
  have hlt:vl WB (dg WB x.natAbs)+vl WB (dg WB y.natAbs) < WB ^ (max (dg WB x.natAbs).length (dg WB y.natAbs).length+1):=by
   have a1:=vl_lt dx
   have a2:=vl_lt dy
   have b1:=pow_le_pow' WB2 (Nat.le_max_left (dg WB x.natAbs).length (dg WB y.natAbs).length)
   have b2:=pow_le_pow' WB2 (Nat.le_max_right (dg WB x.natAbs).length (dg WB y.natAbs).length)
   rw [Nat.pow_succ]
   have:WB ^ max (dg WB x.natAbs).length (dg WB y.natAbs).length * 2≤WB ^ max (dg WB x.natAbs).length (dg WB y.natAbs).length * WB:=Nat.mul_le_mul_left _ WB2
   omega
  have h2:=made_sem (decide (x < 0)) (dgN WB (max (dg WB x.natAbs).length (dg WB y.natAbs).length+1) (vl WB (dg WB x.natAbs)+vl WB (dg WB y.natAbs))) (by rw [dgN_len];omega) (dgN_dig (by unfold WB;omega) _ _)
  have hxy:x < 0↔y < 0:=by simpa using hs
  rw [madeN_of (z:=x+y) (by rw [vl_dgN WB2 hlt,hvx,hvy];omega) (by intro h;simp;omega) (by intro h;simp;omega)] at h2
  generalize dgN WB (max (dg WB x.natAbs).length (dg WB y.natAbs).length+1) (vl WB (dg WB x.natAbs)+vl WB (dg WB y.natAbs))=s at h1 h2
  unfold wC at h2 ⊢
  generalize dg WB x.natAbs=a at h1 ⊢
  generalize dg WB y.natAbs=b at h1 ⊢
  generalize dg WB (x+y).natAbs=c at h2 ⊢
  rw [← hs]
  generalize decide (x < 0)=sx at h2 ⊢
  generalize decide (x+y < 0)=sz at h2 ⊢
  refine si [4] Tryz.func116 ?_
  repeat'((conv=>whnf);first|(try(first|apply eN|apply eI|apply eC);conv=>whnf);apply sD;(focus first|exact gx h1|exact gx h2|(refine gx (sum_sem ?_ ?_ ?_ ?_ ?_ ?_)<;>exact pre)|(refine gx (made_sem ?_ ?_ ?_ ?_)<;>exact pre)|(refine gx (compare_sem ?_ ?_ ?_ ?_)<;>exact pre)|(refine gx (less_sem ?_ ?_ ?_ ?_ ?_ ?_ ?_)<;>exact pre)|exact side)|(first|apply dG|apply kB);kernel_rfl|apply rR|apply rE|apply rH| (apply cD<;>intro hb<;>(try simp only[SPLT]at hb)<;>try exact noB))
  all_goals try exact false
  exact finR
 ·have h1:=compare_sem (dg WB x.natAbs) (dg WB y.natAbs) (by omega) (by omega)
  have h0:=cmpN_le (m:=x.natAbs) (n:=y.natAbs)
  generalize cmpN (dg WB x.natAbs) (dg WB y.natAbs)=cm at h1 h0
  have hxy:¬ (x < 0↔y < 0):=by simpa using hs
  have hne:(decide (x < 0) == decide (y < 0))=false:=by simpa using hs
  by_cases hle:y.natAbs≤x.natAbs
  ·have hll:(dg WB y.natAbs).length≤(dg WB x.natAbs).length:=by
    rcases Nat.lt_or_ge (dg WB x.natAbs).length (dg WB y.natAbs).length with h|h
    ·have:=dg_len WB2 h;omega
    ·exact h
   have h2:=less_sem _ _ lx hll dx dy (by rw [hvx,hvy];exact hle)
   rw [hvx,hvy] at h2
   have h3:=made_sem (decide (x < 0)) (dg WB (x.natAbs - y.natAbs)) (Nat.le_trans (dg_le WB2 (Nat.lt_of_le_of_lt (Nat.sub_le _ _) hx)) (by omega)) (dg_dig WB2 _)
   rw [madeN_of (z:=x+y) (by rw [vl_dg WB2];omega) (by intro h;simp;omega) (by intro h;simp;omega)] at h3
   have hc:0≤cm:=h0.2 hle
   unfold wC at h3 ⊢
   generalize dg WB (x.natAbs - y.natAbs)=s at h2 h3
   generalize dg WB x.natAbs=a at h1 h2 ⊢
   generalize dg WB y.natAbs=b at h1 h2 ⊢
   generalize dg WB (x+y).natAbs=c at h3 ⊢
   generalize decide (x < 0)=sx at h3 hne ⊢
   generalize decide (y < 0)=sy at hne ⊢
   generalize decide (x+y < 0)=sz at h3 ⊢
   refine si [4] Tryz.func116 ?_
   repeat'((conv=>whnf);first|(try(first|apply eN|apply eI|apply eC);conv=>whnf);apply sD;(focus first|exact gx h1|exact gx h2|exact gx h3|(refine gx (sum_sem ?_ ?_ ?_ ?_ ?_ ?_)<;>exact pre)|(refine gx (made_sem ?_ ?_ ?_ ?_)<;>exact pre)|(refine gx (compare_sem ?_ ?_ ?_ ?_)<;>exact pre)|(refine gx (less_sem ?_ ?_ ?_ ?_ ?_ ?_ ?_)<;>exact pre)|exact side)|(first|apply dG|apply kB);kernel_rfl|apply rR|apply rE|apply rH| ((apply cD)<;>intro hb<;>(try simp only [SPLT] at hb)<;>(try first|exact noB|((rw [hb] at hne;simp at hne);done))))
   all_goals try exact false
   exact finR
  ·have hll:(dg WB x.natAbs).length≤(dg WB y.natAbs).length:=by
    rcases Nat.lt_or_ge (dg WB y.natAbs).length (dg WB x.natAbs).length with h|h
    ·have:=dg_len WB2 h;omega
    ·exact h
   have h2:=less_sem _ _ ly hll dy dx (by rw [hvx,hvy];omega)
   rw [hvx,hvy] at h2
   have h3:=made_sem (decide (y < 0)) (dg WB (y.natAbs - x.natAbs)) (Nat.le_trans (dg_le WB2 (Nat.lt_of_le_of_lt (Nat.sub_le _ _) hy)) (by omega)) (dg_dig WB2 _)
   rw [madeN_of (z:=x+y) (by rw [vl_dg WB2];omega) (by intro h;simp;omega) (by intro h;simp;omega)] at h3
   have hc:cm < 0:=by
    rcases Int.lt_or_le cm 0 with h|h
    ·exact h
    ·exact absurd (h0.1 h) hle
   unfold wC at h3 ⊢
   generalize dg WB (y.natAbs - x.natAbs)=s at h2 h3
   generalize dg WB x.natAbs=a at h1 h2 ⊢
   generalize dg WB y.natAbs=b at h1 h2 ⊢
   generalize dg WB (x+y).natAbs=c at h3 ⊢
   generalize decide (x < 0)=sx at hne ⊢
   generalize decide (y < 0)=sy at h3 hne ⊢
   generalize decide (x+y < 0)=sz at h3 ⊢
   refine si [4] Tryz.func116 ?_
   repeat'((conv=>whnf);first|(try(first|apply eN|apply eI|apply eC);conv=>whnf);apply sD;(focus first|exact gx h1|exact gx h2|exact gx h3|(refine gx (sum_sem ?_ ?_ ?_ ?_ ?_ ?_)<;>exact pre)|(refine gx (made_sem ?_ ?_ ?_ ?_)<;>exact pre)|(refine gx (compare_sem ?_ ?_ ?_ ?_)<;>exact pre)|(refine gx (less_sem ?_ ?_ ?_ ?_ ?_ ?_ ?_)<;>exact pre)|exact side)|(first|apply dG|apply kB);kernel_rfl|apply rR|apply rE|apply rH| ((apply cD)<;>intro hb<;>(try simp only [SPLT] at hb)<;>(try first|exact noB|((rw [hb] at hne;simp at hne);done))))
   all_goals try exact false
   exact finR
theorem minusS_sem (x y:Int) (hx:WOk 400 x) (hy:WOk 400 y):Sem Tryz.prog 90 [.agg (wC x),.agg (wC y)] (.agg (wC (x - y))):=by
 have h1:=minus_sem y hy
 have h2:=plus_sem x (-y) hx (by unfold WOk at hy ⊢;rw [Int.natAbs_neg];exact hy)
 rw [← Int.sub_eq_add_neg] at h2
 unfold wC at h1 h2 ⊢
 refine si [4] Tryz.func90 ?_
 repeat'((conv=>whnf);first|(try(first|apply eN|apply eI|apply eC);conv=>whnf);apply sD;(focus first|exact gx h1|exact gx h2|(refine gx (minus_sem ?_ ?_)<;>exact pre)|(refine gx (plus_sem ?_ ?_ ?_ ?_)<;>exact pre)|exact side)|(first|apply dG|apply kB);kernel_rfl|apply rR|apply rE|apply rH| (apply cD<;>intro hb<;>(try simp only[SPLT]at hb)<;>try exact noB))
 all_goals try exact false
 exact finR
theorem compareW_sem (x y:Int) (hx:WOk 400 x) (hy:WOk 400 y):Sem Tryz.prog 59 [.agg (wC x),.agg (wC y)] (.int .i64 (sgn (x - y))):=by
 have h1:=minusS_sem x y hx hy
 have h2:=sign_sem (x - y)
 unfold wC at h1 h2 ⊢
 refine si [] Tryz.func59 ?_
 repeat'((conv=>whnf);first|(try(first|apply eN|apply eI|apply eC);conv=>whnf);apply sD;(focus first|exact gx h1|exact gx h2|(refine gx (minusS_sem ?_ ?_ ?_ ?_)<;>exact pre)|(refine gx (sign_sem ?_)<;>exact pre)|exact side)|apply rR|apply rE|apply rH| (apply cD<;>intro hb<;>(try simp only[SPLT]at hb)<;>try exact noB))
 all_goals try exact false
 exact finR
theorem idx_es {l:List Nat} {n d:Nat} {m:Int} (h:l[n]?=some d) (hm:m=n):0≤Int.ofNat m.toNat∧(l.map u32R)[(Int.ofNat m.toNat).toNat]?=some [.int .u32 d]:=by
 subst hm
 refine ⟨Int.natCast_nonneg _,?_⟩
 rw [Int.toNat_natCast]
 show (l.map u32R)[((n:Nat):Int).toNat]?=_
 rw [Int.toNat_natCast,List.getElem?_map,h]
 rfl
theorem u64_mul (a b:Nat) (h:a * b < 18446744073709551616):IntKind.u64.wrap ((a:Int) * b)=((a * b:Nat):Int):=by rw [IntKind.wrap_u64,← Int.natCast_mul];omega
theorem set_map (l:List Nat) (i d:Nat) {m:Int} (hm:m=i):(l.map u32R).set m.toNat [.int .u32 d]=(l.set i d).map u32R:=by
 subst hm
 rw [Int.toNat_natCast,List.map_set]
 rfl
theorem mul_sgn (x y:Int):(x * y < 0→(decide (x < 0) == decide (y < 0))=false)∧(0 < x * y→(decide (x < 0) == decide (y < 0))=true):=by
 by_cases hx:x < 0
 ·by_cases hy:y < 0
  ·have:=Int.mul_nonneg (a := -x) (b := -y) (by omega) (by omega)
   rw [Int.neg_mul_neg] at this
   exact ⟨fun h=>by omega,fun _=>by rw [decide_eq_true hx,decide_eq_true hy];rfl⟩
  ·have:=Int.mul_nonneg (a := -x) (b:=y) (by omega) (by omega)
   rw [Int.neg_mul] at this
   exact ⟨fun _=>by rw [decide_eq_true hx,decide_eq_false hy];rfl,fun h=>by omega⟩
 ·by_cases hy:y < 0
  ·have:=Int.mul_nonneg (a:=x) (b := -y) (by omega) (by omega)
   rw [Int.mul_neg] at this
   exact ⟨fun _=>by rw [decide_eq_false hx,decide_eq_true hy];rfl,fun h=>by omega⟩
  ·have:=Int.mul_nonneg (a:=x) (b:=y) (by omega) (by omega)
   exact ⟨fun h=>by omega,fun _=>by rw [decide_eq_false hx,decide_eq_false hy];rfl⟩
theorem times_sem (x y:Int) (hx:WOk 200 x) (hy:WOk 200 y):Sem Tryz.prog 61 [.agg (wC x),.agg (wC y)] (.agg (wC (x * y))):=by
 have lx:(dg WB x.natAbs).length≤200:=hx.len
 have ly:(dg WB y.natAbs).length≤200:=hy.len
 have dx:=dg_dig WB2 x.natAbs
 have dy:=dg_dig WB2 y.natAbs
 have hvx:=vl_dg WB2 x.natAbs
 have hvy:=vl_dg WB2 y.natAbs
 have hmk:∀ out:List Nat,out.length≤1000→Dig WB out→vl WB out=vl WB (dg WB x.natAbs) * vl WB (dg WB y.natAbs)→Sem Tryz.prog 92 [.bool (!(decide (x < 0) == decide (y < 0))),.sl 0 1 (out.map u32R)] (.agg (wC (x * y))):=fun out h1 h2 h3=>by
  have hm:=made_sem (!(decide (x < 0) == decide (y < 0))) out h1 h2
  rw [madeN_of (z:=x * y) (by rw [h3,hvx,hvy,Int.natAbs_mul]) (fun h => ?_) (fun h => ?_)] at hm
  ·exact hm
  ·rw [(mul_sgn x y).1 h];rfl
  ·rw [(mul_sgn x y).2 h];rfl
 unfold wC at hmk ⊢
 generalize dg WB x.natAbs=a at *
 generalize dg WB y.natAbs=b at *
 generalize dg WB (x * y).natAbs=c at hmk ⊢
 generalize decide (x < 0)=sx at hmk ⊢
 generalize decide (y < 0)=sy at hmk ⊢
 generalize decide (x * y < 0)=sz at hmk ⊢
 have hla:(a.map u32R).length=a.length:=List.length_map _
 have hlb:(b.map u32R).length=b.length:=List.length_map _
 refine si [4,3000005] Tryz.func61 ?_
 repeat'((conv=>whnf);first|(try(first|apply eN|apply eI|apply eT|apply eC);conv=>whnf);apply sD;(focus first|(refine gx (made_sem ?_ ?_ ?_ ?_)<;>exact pre)|exact side)|apply rR|apply rE|apply rH| (apply cD<;>intro hb<;>(try simp only[SPLT]at hb)<;>try exact noB))
 all_goals try exact false
 refine loop_go (M:=fun t=>mem t [4,3000005]) hT hM (fun x:Nat × List Nat => [(22,.int .i64 x.1),(5,.sl 2 1 (x.2.map u32R))]) (fun x=>x.1≤a.length∧x.2.length=a.length+b.length∧Dig WB x.2∧vl WB x.2=vl WB (a.take x.1) * vl WB b) (fun x=>a.length - x.1) ((0,List.replicate (a.length+b.length) 0)) ?_ ?_ ?_
 ·(conv=>whnf)
  refine ⟨?_,by rfl⟩
  repeat' ((conv=>whnf);first|exact endF|(exact DLe.of_eq (congrArg (D.sl 2 1) (by rw [List.map_replicate,hla,hlb,← Int.natCast_add,Int.toNat_natCast];rfl)))|exact endF2|with_reducible apply dC)
 ·exact ⟨Nat.zero_le _,List.length_replicate,fun d hd=>by rw [(List.mem_replicate.1 hd).2];unfold WB;omega,by rw [vl_zeros,List.take_zero,vl,Nat.zero_mul]⟩
 ·rintro ⟨i,out⟩ ⟨hi,hol,hod,hv⟩
  dsimp only at hi hol hod hv ⊢
  cases hxx:a[i]? with
  |none=>
   have hm:=List.getElem?_eq_none_iff.1 hxx
   obtain rfl:i=a.length:=by omega
   rw [List.take_length] at hv
   have hmk:=hmk out (by omega) hod hv
   repeat'((conv=>whnf);first|(try(first|apply eN|apply eI|apply eT|apply eC);conv=>whnf);apply sD;(focus first|exact gx hmk|(refine gx (made_sem ?_ ?_ ?_ ?_)<;>exact pre)|exact side)|apply rR|apply rE|apply rH| (apply cD<;>intro hb<;>(try simp only[SPLT]at hb)<;>try exact noB))
   all_goals try exact false
   exact finR
  |some u=>
   have hlt:=(gLt hxx)
   have huB:u < WB:=dx u (gMem hxx)
   have huB':u < 4294967296:=huB
   have w1:=u64_nat u (by omega)
   have hbl:vl WB b < WB ^ b.length:=vl_lt dy
   have hlow:vl WB out < WB ^ (i+b.length):=by
    rw [hv,Nat.pow_add]
    have h1:vl WB (a.take i) < WB ^ i:=by
     have:=vl_lt (dx.take i)
     rwa [List.length_take,Nat.min_eq_left (by omega)] at this
    exact Nat.mul_lt_mul_of_lt_of_lt h1 hbl
   have hz:out[i+b.length]?=some 0:=by
    have:i+b.length < out.length:=by omega
    obtain ⟨d,hd⟩:∃ d,out[i+b.length]?=some d:=⟨_,List.getElem?_eq_getElem this⟩
    rw [hd,vl_beyond WB2 hlow hd]
   repeat'((conv=>whnf);first|(try(first|apply eN|apply eI|apply eT|apply eC);conv=>whnf);apply sD;(focus first|(exact idx_u32 hxx rfl)|(exact w1)|(refine gx (made_sem ?_ ?_ ?_ ?_)<;>exact pre)|exact side)|apply rR|apply rE|apply rH| (apply cD<;>intro hb<;>(try simp only[SPLT]at hb)<;>try exact noB))
   all_goals try exact false
   refine loop_go (M:=fun t=>mem t [4,3000005]) hT hM (fun x:Nat × Nat × List Nat => [(30,.int .i64 x.1),(8,.int .u64 x.2.1),(5,.sl 2 1 (x.2.2.map u32R))]) (fun x=>x.1≤b.length∧x.2.1 < WB∧x.2.2.length=a.length+b.length∧Dig WB x.2.2∧x.2.2[i+b.length]?=some 0∧vl WB x.2.2+x.2.1 * WB ^ (i+x.1)=vl WB out+u * vl WB (b.take x.1) * WB ^ i) (fun x=>b.length - x.1) ((0,0,out)) ?_ ?_ ?_
   ·exact finF
   ·exact ⟨Nat.zero_le _,by show 0 < WB;unfold WB;omega,hol,hod,hz,by simp [vl]⟩
   ·rintro ⟨k,c0,o⟩ ⟨hk,hc0B,hoL,hoD,hoz,hov⟩
    dsimp only at hk hc0B hoL hoD hoz hov ⊢
    have hom:(o.map u32R).length=a.length+b.length:=by rw [List.length_map];exact hoL
    have hc0B':c0 < 4294967296:=hc0B
    cases hyy:b[k]? with
    |none=>
     have hm:=List.getElem?_eq_none_iff.1 hyy
     obtain rfl:k=b.length:=by omega
     have w2:=u32_wrap c0
     rw [Nat.mod_eq_of_lt hc0B] at w2
     repeat'((conv=>whnf);first|(try(first|apply eN|apply eI|apply eT|apply eC);conv=>whnf);apply sD;(focus first|(exact w2)|(exact idx_es hoz (by omega))|(refine gx (made_sem ?_ ?_ ?_ ?_)<;>exact pre)|exact side)|apply rR|apply rE|apply rH| (apply cD<;>intro hb<;>(try simp only[SPLT]at hb)<;>try exact noB))
     all_goals try exact false
     have hs:=vl_set (B:=WB) (x:=c0) hoz
     rw [Nat.zero_mul,Nat.add_zero] at hs
     rw [List.take_length] at hov
     refine ⟨(i+1,o.set (i+b.length) c0),⟨by dsimp only;omega,by dsimp only;rw [List.length_set];exact hoL,hoD.set hc0B,?_⟩,by dsimp only;omega,?_⟩
     ·dsimp only
      rw [hs,hov,hv,vl_takeS hxx,Nat.add_mul]
      congr 1
      rw [Nat.mul_comm (WB ^ i) u,Nat.mul_assoc,Nat.mul_assoc,Nat.mul_comm (vl WB b)]
     ·(conv=>whnf)
      refine ⟨?_,by rfl⟩
      repeat' ((conv=>whnf);first|exact endF|(exact DLe.of_eq (congrArg (D.sl 2 1) (set_map _ _ _ (by omega))))|exact endF2|with_reducible apply dC)
    |some v=>
     have hlk:=(gLt hyy)
     have hvB:v < WB:=dy v (gMem hyy)
     have hvB':v < 4294967296:=hvB
     obtain ⟨q,hq⟩:∃ q,o[i+k]?=some q:=⟨_,List.getElem?_eq_getElem (by omega)⟩
     have hqB:q < WB:=hoD q (gMem hq)
     have hqB':q < 4294967296:=hqB
     obtain ⟨m1,m2⟩:=mul_small hc0B hqB huB hvB
     have m2':c0+q+u * v < 18446744073709551616:=m2
     have w3:=u64_nat v (by omega)
     have w4:=u64_nat q (by omega)
     have w5:=u64_mul u v (by omega)
     have w6:=u64_add q (u * v) (by omega)
     have w7:=u64_add c0 (q+u * v) (by omega)
     rw [show c0+(q+u * v)=c0+q+u * v by omega] at w7
     have w8:=u32_wrap (c0+q+u * v)
     have w9:=u64_shr (c0+q+u * v)
     repeat'((conv=>whnf);first|(try(first|apply eN|apply eI|apply eT|apply eC);conv=>whnf);apply sD;(focus first|(exact idx_u32 hyy rfl)|(exact idx_es hq (by omega))|(exact w3)|(exact w1)|(exact w4)|(exact w5)|(exact w6)|(exact w7)|(exact w8)|(exact w9)|(refine gx (made_sem ?_ ?_ ?_ ?_)<;>exact pre)|exact side)|apply rR|apply rE|apply rH| (apply cD<;>intro hb<;>(try simp only[SPLT]at hb)<;>try exact noB))
     all_goals try exact false
     have hs:=mul_step (B:=WB) (i:=i) (k:=k) (x:=u) hyy hq hov
     refine ⟨(k+1,(c0+q+u * v) / WB,o.set (i+k) ((c0+q+u * v) % WB)),⟨by dsimp only;omega,m1,by dsimp only;rw [List.length_set];exact hoL,hoD.set (Nat.mod_lt _ (by unfold WB;omega)),by dsimp only;rw [List.getElem?_set,if_neg (by omega)];exact hoz,hs⟩,by dsimp only;omega,?_⟩
     (conv=>whnf)
     refine ⟨?_,by rfl⟩
     repeat' ((conv=>whnf);first|exact endF|(exact DLe.of_eq (congrArg (D.sl 2 1) (set_map _ _ _ (by omega))))|exact endF2|with_reducible apply dC)
theorem pow_ok {n:Nat} (h:n≤100):WOk 100 ((10:Int) ^ n):=by
 have e:((10:Int) ^ n).natAbs=10 ^ n:=by rw [Int.natAbs_pow];rfl
 unfold WOk
 rw [e]
 have h1:10 ^ n≤10 ^ 100:=Nat.pow_le_pow_right (by omega) h
 have h2:(10:Nat) ^ 100 < WB ^ 100:=by unfold WB;decide
 omega
theorem power_sem (n:Int) (h0:0≤n) (h1:n≤50):Sem Tryz.prog 57 [.int .i64 n] (.agg (wC (10 ^ n.toNat))):=by
 have a1:=of_sem 1 (by omega) (by omega)
 have a2:=of_sem 10 (by omega) (by omega)
 have a3:∀ i:Nat,i < n.toNat→Sem Tryz.prog 61 [.agg (wC (10 ^ i)),.agg (wC 10)] (.agg (wC (10 ^ (i+1)))):=fun i hi=>by
  have h:=pow_ok (n:=i) (by omega)
  rw [Int.pow_succ]
  refine times_sem _ _ ?_ ?_
  ·unfold WOk at h ⊢
   exact Nat.lt_of_lt_of_le h (Nat.pow_le_pow_right (by unfold WB;omega) (by omega))
  ·unfold WOk WB
   decide
 obtain ⟨N,rfl⟩:∃ N:Nat,n=N:=⟨n.toNat,by omega⟩
 rw [Int.toNat_natCast] at a3 ⊢
 rw [show (1:Int)=10 ^ 0 from rfl] at a1
 generalize hS:(fun i:Nat=>decide ((10:Int) ^ i < 0))=S
 generalize hL:(fun i:Nat=>dg WB ((10:Int) ^ i).natAbs)=L
 have hw:∀ i:Nat,wC ((10:Int) ^ i) = [.bool (S i),.sl 0 1 ((L i).map u32R)]:=fun i=>by rw [← hS,← hL];rfl
 rw [hw] at a1 ⊢
 have a3:∀ i:Nat,i < N→Sem Tryz.prog 61 [.agg [.bool (S i),.sl 0 1 ((L i).map u32R)],.agg (wC 10)] (.agg [.bool (S (i+1)),.sl 0 1 ((L (i+1)).map u32R)]):=fun i hi=>by
  have:=a3 i hi
  rwa [hw,hw] at this
 clear hw hS hL
 obtain ⟨s10,t10,h10⟩:∃ (s:Bool) (t:List Nat),wC 10 = [.bool s,.sl 0 1 (t.map u32R)]:=⟨_,_,rfl⟩
 rw [h10] at a2 a3
 refine si [2,3,5000004] Tryz.func57 ?_
 repeat'((conv=>whnf);first|((with_reducible apply DrawI.at 8 [[false,false,false,false],[true,false,false,false],[false,true,false,false],[true,true,false,false],[true,true,true,false],[true,true,true,true]]);exact rfl;kernel_rfl)|with_reducible apply ExE.go|((with_reducible apply EqF.mk);exact rfl)|with_reducible apply AndI.mk|with_reducible exact trivial|(try(first|apply eN|apply eI|apply eC);conv=>whnf);apply sD;(focus first|exact gx a1|(refine gx (of_sem ?_ ?_ ?_)<;>exact pre)|(refine gx (times_sem ?_ ?_ ?_ ?_)<;>exact pre)|exact side)|(first|apply dG|apply kB);kernel_rfl|apply rR|apply rE|apply rH| (apply cD<;>intro hb<;>(try simp only[SPLT]at hb)<;>try exact noB))
 all_goals try exact false
 refine loop_go (M:=fun t=>mem t [2,3,5000004]) hT hM (fun i:Nat => [(6,.int .i64 i),(3,.obj [.bool (S i),.sl 0 1 ((L i).map u32R)])]) (fun i=>i≤N) (fun i=>N - i) (0) ?_ ?_ ?_
 ·exact finF
 ·exact Nat.zero_le _
 ·rintro i hi
  by_cases hlt:i < N
  ·have a3:=a3 i hlt
   repeat'((conv=>whnf);first|((with_reducible apply DrawI.at 8 [[false,false,false,false],[true,false,false,false],[false,true,false,false],[true,true,false,false],[true,true,true,false],[true,true,true,true]]);exact rfl;kernel_rfl)|with_reducible apply ExE.go|((with_reducible apply EqF.mk);exact rfl)|with_reducible apply AndI.mk|with_reducible exact trivial|(try(first|apply eN|apply eI|apply eC);conv=>whnf);apply sD;(focus first|exact gx a2|exact gx a3|(refine gx (of_sem ?_ ?_ ?_)<;>exact pre)|(refine gx (times_sem ?_ ?_ ?_ ?_)<;>exact pre)|exact side)|(first|apply dG|apply kB);kernel_rfl|apply rR|apply rE|apply rH| (apply cD<;>intro hb<;>(try simp only[SPLT]at hb)<;>try exact noB))
   all_goals try exact false
   refine ⟨i+1,by omega,by omega,?_⟩
   exact finF
  ·obtain rfl:i=N:=by omega
   repeat'((conv=>whnf);first|((with_reducible apply DrawI.at 8 [[false,false,false,false],[true,false,false,false],[false,true,false,false],[true,true,false,false],[true,true,true,false],[true,true,true,true]]);exact rfl;kernel_rfl)|with_reducible apply ExE.go|((with_reducible apply EqF.mk);exact rfl)|with_reducible apply AndI.mk|with_reducible exact trivial|(try(first|apply eN|apply eI|apply eC);conv=>whnf);apply sD;(focus first|(refine gx (of_sem ?_ ?_ ?_)<;>exact pre)|(refine gx (times_sem ?_ ?_ ?_ ?_)<;>exact pre)|exact side)|(first|apply dG|apply kB);kernel_rfl|apply rR|apply rE|apply rH| (apply cD<;>intro hb<;>(try simp only[SPLT]at hb)<;>try exact noB))
   all_goals try exact false
   exact finR
/-! numbers of a machine -/
theorem bit_or_high {p q:Nat} (hp:p < 4294967296) (hq:q < 4294967296):bitsI .or .u64 (p:Int) ((q * 4294967296:Nat):Int)=((p+q * 4294967296:Nat):Int):=by
 have h:=Nat.shiftLeft_add_eq_or_of_lt (i:=32) (b:=p) hp q
 rw [Nat.shiftLeft_eq] at h
 have e:(BitVec.ofInt 64 (p:Int) ||| BitVec.ofInt 64 ((q * 4294967296:Nat):Int)).toNat=p+q * 4294967296:=by
  rw [BitVec.toNat_or,BitVec.ofInt_natCast,BitVec.ofInt_natCast,BitVec.toNat_ofNat,BitVec.toNat_ofNat,Nat.mod_eq_of_lt (by omega),Nat.mod_eq_of_lt (by omega),Nat.or_comm]
  rw [show q * 4294967296=q * 2 ^ 32 from rfl,← h]
  omega
 show IntKind.u64.wrap ((BitVec.ofInt 64 (p:Int) ||| BitVec.ofInt 64 ((q * 4294967296:Nat):Int)).toNat:Int)=_
 rw [e,IntKind.wrap_u64]
 omega
def intW (z m:Int):Int × Bool:=if (z.natAbs:Int)≤m then (z,true) else (0,false)
theorem dg_two {n:Nat}:(dg WB n).length≤2↔n < 18446744073709551616:=by
 constructor
 ·intro h
  have h1:=vl_lt (dg_dig WB2 n)
  rw [vl_dg WB2] at h1
  have h2:=pow_le_pow' WB2 h
  have:WB ^ 2=18446744073709551616:=by unfold WB;decide
  omega
 ·intro h
  exact dg_le WB2 (by unfold WB;exact h)
theorem int_sem (z:Int) (m:Int) (h0:0≤m) (h1:m≤1000000000000000000):Sem Tryz.prog 144 [.agg (wC z),.int .i64 m] (.tup [.int .i64 (intW z m).1,.bool (intW z m).2]):=by
 have h2:=dg_two (n:=z.natAbs)
 have hv:=vl_dg WB2 z.natAbs
 have hd:=dg_dig WB2 z.natAbs
 unfold wC
 generalize hl:dg WB z.natAbs=l at *
 have hll:(l.map u32R).length=l.length:=List.length_map _
 by_cases hlen:2 < l.length
 ·have e:intW z m=(0,false):=by
   unfold intW
   rw [if_neg]
   have:¬ z.natAbs < 18446744073709551616:=fun h=>by have:=h2.2 h;omega
   omega
  rw [e]
  refine si [] Tryz.func144 ?_
  repeat'((conv=>whnf);first|(try(first|apply eN|apply eI|apply eT|apply eC);conv=>whnf);apply sD;(focus first|exact side)|apply rR|apply rE|apply rH| (apply cD<;>intro hb<;>(try simp only[SPLT]at hb)<;>try exact noB))
  all_goals try exact false
  exact finR
 ·have hlt:z.natAbs < 18446744073709551616:=h2.1 (by omega)
  have hr:intW z m=if (z.natAbs:Int)≤m then (z,true) else (0,false):=rfl
  generalize intW z m=r at hr ⊢
  have w1:IntKind.u64.wrap m=m:=by rw [IntKind.wrap_u64];omega
  refine si [] Tryz.func144 ?_
  repeat'((conv=>whnf);first|(try(first|apply eN|apply eI|apply eT|apply eC);conv=>whnf);apply sD;(focus first|exact side)|apply rR|apply rE|apply rH| (apply cD<;>intro hb<;>(try simp only[SPLT]at hb)<;>try exact noB))
  all_goals try exact false
  refine loop_go (M:=fun t=>mem t []) hT hM (fun i:Nat => [(16,.int .i64 i),(6,.int .u64 (vl WB (l.take i)))]) (fun i=>i≤l.length) (fun i=>l.length - i) (0) ?_ ?_ ?_
  ·exact finF
  ·exact Nat.zero_le _
  ·rintro i hi
   cases hx:l[i]? with
   |none=>
    have hm:=List.getElem?_eq_none_iff.1 hx
    obtain rfl:i=l.length:=by omega
    rw [List.take_length,hv]
    repeat'((conv=>whnf);first|(try(first|apply eN|apply eI|apply eT|apply eC);conv=>whnf);apply sD;(focus first|(exact w1)|exact side)|apply rR|apply rE|apply rH| (apply cD<;>intro hb<;>(try simp only[SPLT]at hb)<;>try exact noB))
    all_goals try exact false
    ·rw [if_neg (by omega)] at hr
     subst hr
     exact finR
    ·rw [if_pos (by omega)] at hr
     subst hr
     repeat' ((conv=>whnf);first|exact endR|with_reducible first|apply And.intro|apply oR|apply oN|apply dC)
     all_goals (conv=>whnf)
     exact rle_int (by omega)
    ·rw [if_pos (by omega)] at hr
     subst hr
     repeat' ((conv=>whnf);first|exact endR|with_reducible first|apply And.intro|apply oR|apply oN|apply dC)
     all_goals (conv=>whnf)
     exact rle_int (by omega)
   |some x=>
    have hlti:=(gLt hx)
    have hxB:x < WB:=hd x (gMem hx)
    have hxB':x < 4294967296:=hxB
    have w3:=u64_nat x (by omega)
    have hts:=vl_takeS (B:=WB) hx
    rcases (show i=0∨i=1 by omega) with rfl|rfl
    ·rw [List.take_zero] at hts ⊢
     have hts:vl WB (l.take (0+1))=x:=by rw [hts];simp [vl]
     have w4:IntKind.u64.wrap ((x:Int) * 2 ^ (32 * ((0:Nat):Int)).toNat)=(x:Int):=by
      rw [show (32 * ((0:Nat):Int)).toNat=0 from rfl,IntKind.wrap_u64]
      omega
     have w5:bitsI .or .u64 ((vl WB []:Nat):Int) (x:Int)=(x:Int):=by
      have:=bit_or_high (p:=x) (q:=0) hxB' (by omega)
      have e:bitsI .or .u64 (x:Int) ((0 * 4294967296:Nat):Int)=bitsI .or .u64 ((0:Nat):Int) (x:Int):=by
       show IntKind.u64.wrap _=IntKind.u64.wrap _
       rw [BitVec.or_comm]
      rw [e] at this
      rw [show vl WB []=0 from rfl]
      simpa using this
     repeat'((conv=>whnf);first|(try(first|apply eN|apply eI|apply eT|apply eC);conv=>whnf);apply sD;(focus first|(exact idx_u32 hx rfl)|(exact w3)|(exact ⟨by omega,by show _≤(64:Int);omega,w4⟩)|(exact w5)|exact side)|apply rR|apply rE|apply rH| (apply cD<;>intro hb<;>(try simp only[SPLT]at hb)<;>try exact noB))
     all_goals try exact false
     refine ⟨1,by omega,by omega,?_⟩
     (conv=>whnf)
     refine ⟨?_,by rfl⟩
     repeat' ((conv=>whnf);first|exact endF|(exact dle_int (by rw [← hts]))|exact endF2|with_reducible apply dC)
    ·have hp0:vl WB (l.take 1) < 4294967296:=by
      have:=vl_lt (hd.take 1)
      rw [List.length_take,Nat.min_eq_left (by omega)] at this
      exact this
     have w4:IntKind.u64.wrap ((x:Int) * 2 ^ (32 * ((1:Nat):Int)).toNat)=((x * 4294967296:Nat):Int):=by
      rw [show (32 * ((1:Nat):Int)).toNat=32 from rfl,IntKind.wrap_u64]
      omega
     have w5:=bit_or_high hp0 hxB'
     repeat'((conv=>whnf);first|(try(first|apply eN|apply eI|apply eT|apply eC);conv=>whnf);apply sD;(focus first|(exact idx_u32 hx rfl)|(exact w3)|(exact ⟨by omega,by show _≤(64:Int);omega,w4⟩)|(exact w5)|exact side)|apply rR|apply rE|apply rH| (apply cD<;>intro hb<;>(try simp only[SPLT]at hb)<;>try exact noB))
     all_goals try exact false
     refine ⟨2,by omega,by omega,?_⟩
     (conv=>whnf)
     refine ⟨?_,by rfl⟩
     repeat' ((conv=>whnf);first|exact endF|(exact dle_int (by rw [hts];unfold WB;omega))|exact endF2|with_reducible apply dC)
end Go.Proofs.YtdhlopciapncfaaGreatDoor
