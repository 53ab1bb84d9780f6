/- Partners and addresses: plain definitions. Conditions: the small functions, and the comparison. -/
import Derived.Test.YtnjgoldinaffgaaGreatDoorY10
import Derived.Test.YtnjgoldinaffgaaGreatDoorY11
namespace Go.Proofs.YtnjgoldinaffgaaGreatDoor
set_option linter.unusedSimpArgs false
set_option linter.unusedVariables false
open Go.RowKit
structure Adr where
 kind:Str
 id:Str
 deriving DecidableEq
structure Par where
 name:Str
 addrs:List Adr
abbrev Adr.row (a:Adr):List D := [.str a.kind,.str a.id]
abbrev Adr.d (a:Adr):D:=.agg [.str a.kind,.str a.id]
abbrev Adr.key (a:Adr):Value:=.agg [.string ⟨a.kind.toArray⟩,.string ⟨a.id.toArray⟩].toArray
abbrev Par.row (p:Par):List D := [.str p.name,.sl 0 2 (p.addrs.map Adr.row)]
structure Adr.Ok (a:Adr):Prop where
 kind:a.kind.Ok
 id:a.id.Ok
structure Par.Ok (p:Par):Prop where
 name:p.name.Ok
 addrs:∀ a ∈ p.addrs,a.Ok
theorem eZ {α:Type} {l:List α} {k:Nat} {x:α} (h:l[k]?=some x):l.take (k+1)=l.take k ++ [x]:=by
 obtain ⟨hlt,rfl⟩:=List.getElem?_eq_some_iff.1 h
 exact List.take_succ_eq_append_getElem hlt
set_option maxRecDepth 100000
inductive Cond where
 |mk (kind:Int) (kids:List Cond) (path:Str) (vals:List Str) (low high:Int)
mutual
def Cond.row:Cond→List D
 |.mk k ks p vs lo hi => [.int .i64 k,.sl 0 6 (Cond.rows ks),.str p,.sl 0 1 (vs.map fun s => [.str s]),.int .i64 lo,.int .i64 hi]
def Cond.rows:List Cond→List (List D)
 |[] => []
 |c::l=>c.row::Cond.rows l
end
mutual
def Cond.same:Cond→Cond→Bool
 |.mk k ks p vs lo hi,.mk k' ks' p' vs' lo' hi'=>(k == k') && (p == p') && (lo == lo') && (hi == hi') && (vs == vs') && Cond.sames ks ks'
def Cond.sames:List Cond→List Cond→Bool
 |[],[]=>true
 |a::l,b::m=>Cond.same a b && Cond.sames l m
 |[],_::_=>false
 |_::_,[]=>false
end
theorem Cond.rows_map (l:List Cond):Cond.rows l=l.map Cond.row:=by
 induction l with
 |nil=>rw [Cond.rows,List.map_nil]
 |cons c l ih=>rw [Cond.rows,List.map_cons,ih]
theorem Cond.row_mk (k:Int) (ks:List Cond) (p:Str) (vs:List Str) (lo hi:Int):(Cond.mk k ks p vs lo hi).row = [.int .i64 k,.sl 0 6 (ks.map Cond.row),.str p,.sl 0 1 (vs.map fun s => [.str s]),.int .i64 lo,.int .i64 hi]:=by
 rw [Cond.row,Cond.rows_map]
attribute [irreducible] Cond.row
theorem Cond.row_len (c:Cond):c.row.length=6:=by
 obtain ⟨k,ks,p,vs,lo,hi⟩:=c
 rw [Cond.row_mk]
 rfl
theorem Cond.ind {p:Cond→Prop} (h:∀ k ks q vs lo hi,(∀ x ∈ ks,p x)→p (.mk k ks q vs lo hi)) (c:Cond):p c:=
 Cond.rec (motive_1:=p) (motive_2:=fun l=>∀ x ∈ l,p x) (fun k ks q vs lo hi ih=>h k ks q vs lo hi ih) (fun x hx=>by simp at hx) (fun c l h1 h2 x hx=>by
  rcases List.mem_cons.1 hx with rfl|hx
  ·exact h1
  ·exact h2 x hx) c
theorem Cond.same_iff (a:Cond):∀ b:Cond,a.same b=true↔a=b:=by
 induction a using Cond.ind with
 |h k ks q vs lo hi ih=>
  intro b
  obtain ⟨k',ks',q',vs',lo',hi'⟩:=b
  have key:∀ (l m:List Cond),(∀ x ∈ l,∀ b:Cond,x.same b=true↔x=b)→(Cond.sames l m=true↔l=m):=by
   intro l
   induction l with
   |nil=>intro m _;cases m<;>simp [Cond.sames]
   |cons c l ihl=>
    intro m hm
    cases m with
    |nil=>simp [Cond.sames]
    |cons d m=>
     rw [Cond.sames,Bool.and_eq_true,hm c (by simp) d,ihl m fun x hx=>hm x (by simp [hx])]
     simp
  rw [Cond.same]
  simp only [Bool.and_eq_true,beq_iff_eq,key ks ks' ih,Cond.mk.injEq]
  constructor
  ·rintro ⟨⟨⟨⟨⟨rfl,rfl⟩,rfl⟩,rfl⟩,rfl⟩,rfl⟩;exact ⟨rfl,rfl,rfl,rfl,rfl,rfl⟩
  ·rintro ⟨rfl,rfl,rfl,rfl,rfl,rfl⟩;exact ⟨⟨⟨⟨⟨rfl,rfl⟩,rfl⟩,rfl⟩,rfl⟩,rfl⟩
theorem Cond.same_mk {k k':Int} {ks ks':List Cond} {p p':Str} {vs vs':List Str} {lo lo' hi hi':Int}:(Cond.mk k ks p vs lo hi).same (.mk k' ks' p' vs' lo' hi')=true↔k=k'∧ks=ks'∧p=p'∧vs=vs'∧lo=lo'∧hi=hi':=by
 rw [Cond.same_iff,Cond.mk.injEq]
attribute [irreducible] Cond.same
theorem wU {l:List Cond} {i:Int} {j:Nat} {k:Int} {ks:List Cond} {p:Str} {vs:List Str} {lo hi:Int} (h:l[j]?=some (.mk k ks p vs lo hi)) (hi':i=j):0≤i∧(l.map Cond.row)[i.toNat]?=some [.int .i64 k,.sl 0 6 (ks.map Cond.row),.str p,.sl 0 1 (vs.map fun s => [.str s]),.int .i64 lo,.int .i64 hi]:=by
 subst hi'
 refine ⟨by omega,?_⟩
 rw [Int.toNat_natCast,List.getElem?_map,h,Option.map_some,Cond.row_mk]
set_option maxHeartbeats 400000
end Go.Proofs.YtnjgoldinaffgaaGreatDoor
