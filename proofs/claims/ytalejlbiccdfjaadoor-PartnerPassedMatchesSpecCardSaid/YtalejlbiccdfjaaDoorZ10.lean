/- Partners and addresses: plain definitions. The oldest and the lowest of what is held: the walks over a map in whatever order. Series: the walks. Arrivals: the program's methods (walks). Arrivals: the program's methods that turn the object (walks). Arrivals: the program takes one. Each arrival is passed on once: what the law asks (plain). -/
import Derived.Test.YtalejlbiccdfjaaDoorZ9
import Derived.Test.YtalejlbiccdfjaaDoorZ5
import Derived.Test.YtalejlbiccdfjaaDoorZ6
import Derived.Test.YtalejlbiccdfjaaDoorZ4
namespace Go.Proofs.YtalejlbiccdfjaaDoor
set_option linter.unusedSimpArgs false
set_option linter.unusedVariables false
open Go.RowKit
structure Adr where
 kind:Str
 id:Str
 deriving DecidableEq
structure Par where
 name:Str
 addrs:List Adr
abbrev Adr.row (a:Adr):List D := [.str a.kind,.str a.id]
abbrev Adr.d (a:Adr):D:=.agg [.str a.kind,.str a.id]
abbrev Adr.key (a:Adr):Value:=.agg [.string ⟨a.kind.toArray⟩,.string ⟨a.id.toArray⟩].toArray
abbrev Par.row (p:Par):List D := [.str p.name,.sl 0 2 (p.addrs.map Adr.row)]
structure Adr.Ok (a:Adr):Prop where
 kind:a.kind.Ok
 id:a.id.Ok
structure Par.Ok (p:Par):Prop where
 name:p.name.Ok
 addrs:∀ a ∈ p.addrs,a.Ok
theorem take_at {α:Type} {l:List α} {k:Nat} {x:α} (h:l[k]?=some x):l.take (k+1)=l.take k ++ [x]:=by
 obtain ⟨hlt,rfl⟩:=List.getElem?_eq_some_iff.1 h
 exact List.take_succ_eq_append_getElem hlt
set_option maxRecDepth 100000
set_option maxHeartbeats 2000000
def minN:List Sn→Int
 |[] => -1
 |[y]=>y.num
 |y::l=>min y.num (minN l)
theorem minN_mem:∀ {l:List Sn},l ≠ []→(∃ y ∈ l,y.num=minN l)∧∀ y ∈ l,minN l≤y.num
 |[y],_=>⟨⟨y,by simp,rfl⟩,fun z hz=>by simp at hz;subst hz;exact Int.le_refl _⟩
 |y::z::l,_=>by
  obtain ⟨⟨u,hu,hu2⟩,h2⟩:=minN_mem (l:=z::l) (by simp)
  rw [minN]
  ·refine ⟨?_,fun v hv => ?_⟩
   ·rcases Int.le_total y.num (minN (z::l)) with h|h
    ·exact ⟨y,by simp,by omega⟩
    ·exact ⟨u,by simp at hu ⊢;exact .inr hu,by omega⟩
   ·rcases List.mem_cons.1 hv with rfl|hv
    ·omega
    ·have:=h2 v hv;omega
  ·simp
theorem ent_at {held:List Sn} {es:Array MapEntry} (hp:es.toList.map pr=plV held) {e:MapEntry} (he:e ∈ es.toList):∃ y ∈ held,e.key=.int .i64 y.pl∧e.val=.int .i64 y.num:=by
 have:pr e ∈ plV held:=by rw [← hp];exact List.mem_map_of_mem he
 obtain ⟨y,hy,h⟩:=List.mem_map.1 this
 simp only [pr,Prod.mk.injEq] at h
 exact ⟨y,hy,h.1.symm,h.2.symm⟩
theorem ent_of {held:List Sn} {es:Array MapEntry} (hp:es.toList.map pr=plV held) {y:Sn} (hy:y ∈ held):∃ e ∈ es.toList,e.key=.int .i64 y.pl∧e.val=.int .i64 y.num:=by
 have:(Value.int .i64 y.pl,Value.int .i64 y.num) ∈ es.toList.map pr:=by rw [hp];exact List.mem_map_of_mem hy
 obtain ⟨e,he,h⟩:=List.mem_map.1 this
 simp only [pr,Prod.mk.injEq] at h
 exact ⟨e,he,h.1,h.2⟩
def Best (f:MapEntry→Int) (es:Array MapEntry) (seen:Array Nat) (z b:Int):Prop:=
 (∀ e ∈ es.toList,seen.contains e.born=true→b≤f e)∧((b=z∧∀ e ∈ es.toList,seen.contains e.born=false)∨∃ e ∈ es.toList,seen.contains e.born=true∧f e=b)
def seenIn (w:World) (r:Nat):Array Nat:=match w.heap[r]? with
 |some (.mapIter _ _ seen _)=>seen
 |_ => #[]
theorem seenIn_eq {w:World} {r since c0:Nat} {m:Option Nat} {seen:Array Nat} (h:w.heap[r]?=some (.mapIter m since seen c0)):seenIn w r=seen:=by
 unfold seenIn;rw [h]
def valI:Value→Int
 |.int _ n=>n
 |_=>0
theorem push_contains (seen:Array Nat) (x y:Nat):(seen.push x).contains y=(seen.contains y || y == x):=by
 rw [Bool.eq_iff_iff]
 simp [Array.contains_iff_mem,Array.mem_push]
theorem Best.push {f:MapEntry→Int} {es:Array MapEntry} {seen:Array Nat} {z b:Int} (h:Best f es seen z b) (hn:(es.toList.map (·.born)).Nodup) {e:MapEntry} (he:e ∈ es.toList) {b':Int} (hb:(b'=f e∧(b≤f e→∀ e' ∈ es.toList,seen.contains e'.born=false))∨(b'=b∧b≤f e∧∃ e' ∈ es.toList,seen.contains e'.born=true∧f e'=b)):Best f es (seen.push e.born) z b':=by
 have same:∀ e' ∈ es.toList,e'.born=e.born→e'=e:=fun e' he' hee=>by
  have h1:=find_born e es.toList hn he
  have h2:=find_born e' es.toList hn he'
  rw [hee,h1] at h2
  exact (Option.some.inj h2).symm
 refine ⟨fun e' he' hc => ?_,.inr ?_⟩
 ·rw [push_contains,Bool.or_eq_true,beq_iff_eq] at hc
  rcases hb with ⟨rfl,hb⟩|⟨rfl,hb,_⟩
  ·rcases hc with hc|hc
   ·have h1:=h.1 e' he' hc
    by_cases h2:b≤f e
    ·rw [hb h2 e' he'] at hc;cases hc
    ·omega
   ·rw [same e' he' hc];exact Int.le_refl _
  ·rcases hc with hc|hc
   ·exact h.1 e' he' hc
   ·rw [same e' he' hc];exact hb
 ·rcases hb with ⟨rfl,_⟩|⟨rfl,_,e',he',hc,hf⟩
  ·exact ⟨e,he,by rw [push_contains];simp,rfl⟩
  ·exact ⟨e',he',by rw [push_contains,hc];rfl,hf⟩
theorem left_none {es:Array MapEntry} {seen:Array Nat} (h:(leftOf es seen).size=0):∀ e ∈ es.toList,seen.contains e.born=true:=fun e he=>by
 cases hc:seen.contains e.born with
 |true=>rfl
 |false=>
  have:e ∈ leftOf es seen:=Array.mem_filter.2 ⟨Array.mem_toList_iff.1 he,by rw [hc];rfl⟩
  have h0:leftOf es seen = #[]:=Array.eq_empty_of_size_eq_zero h
  rw [h0] at this
  simp at this
theorem ent_fin {held:List Sn} {es:Array MapEntry} {g:Sn→Int} {f:MapEntry→Int} {z b mn:Int} {seen:Array Nat} (hall:∀ e ∈ es.toList,seen.contains e.born=true) (h1:∀ e ∈ es.toList,∃ y ∈ held,f e=g y) (h2:∀ y ∈ held,∃ e ∈ es.toList,f e=g y) (h0:held = []→mn=z) (hm:held ≠ []→(∃ y ∈ held,g y=mn)∧∀ y ∈ held,mn≤g y) (hB:Best f es seen z b):b=mn:=by
 by_cases hh:held = []
 ·rw [h0 hh]
  rcases hB.2 with ⟨h,_⟩|⟨e,he,_⟩
  ·exact h
  ·obtain ⟨y,hy,_⟩:=h1 e he
   rw [hh] at hy;simp at hy
 ·obtain ⟨⟨y,hy,hy2⟩,hle⟩:=hm hh
  obtain ⟨e,he,hfe⟩:=h2 y hy
  have a1:=hB.1 e he (hall e he)
  rcases hB.2 with ⟨_,hno⟩|⟨e',he',_,hfe'⟩
  ·have:=hall e he
   rw [hno e he] at this;cases this
  ·obtain ⟨y',hy',hfy'⟩:=h1 e' he'
   have:=hle y' hy'
   omega
theorem oldest_low (held:List Sn) (w:World) (b0 m clock:Nat) (es:Array MapEntry) (hc:w.cell? ⟨b0,5,none⟩=some (.map (some m))) (hm:w.heap[m]?=some (.map es clock)) (hp:es.toList.map pr=plV held) (hs:Stamped es clock) (h0:∀ y ∈ held,0≤y.num):
    Calls Tryd.prog 43 #[.pointer (some ⟨b0,0,none⟩)] w fun e w'=>e=.returned (.tuple #[.int .i64 (minN held),.bool (!held.isEmpty)])∧Ext w w':=by
  have hold:∀ x ∈ es.toList,x.born < clock:=fun x hx=>hs.1 _ (List.mem_map_of_mem hx)
  have hv:∀ e ∈ es.toList,∃ n,e.val=.int .i64 n∧0≤n:=fun e he=>by
    obtain ⟨y,hy,_,h2⟩:=ent_at hp he
    exact ⟨_,h2,h0 y hy⟩
  have hml:m < w.heap.size:=(Array.getElem?_eq_some_iff.1 hm).1
  have hfin:∀ b seen,(∀ e ∈ es.toList,seen.contains e.born=true)→Best (fun e=>valI e.val) es seen (-1) b→b=minN held:=fun b seen h hB=>
    ent_fin (g:=Sn.num) h (fun e he=>by obtain ⟨y,hy,_,h2⟩:=ent_at hp he;exact ⟨y,hy,by rw [h2];rfl⟩) (fun y hy=>by obtain ⟨e,he,_,h2⟩:=ent_of hp hy;exact ⟨e,he,by rw [h2];rfl⟩) (fun h=>by rw [h];rfl) minN_mem hB
  have hemp:decide (minN held ≥ 0) = !held.isEmpty:=by
    cases held with
    |nil=>rfl
    |cons y l=>
      obtain ⟨⟨u,hu,hu2⟩,_⟩:=minN_mem (l:=y::l) (by simp)
      have:=h0 u hu
      rw [decide_eq_true (by omega)]
      rfl
  go_enter Tryd.func43,Tryd.ntmps43
  repeat' (
      first
        |((with_reducible apply wp_seq_k);intro K hK)
        |(simp only [Exit.then,Exit.inBlock,↓reduceIte,Nat.reduceEqDiff])
        |with_reducible apply wp_block
        |with_reducible apply wp_skip
        |with_reducible apply wp_exit
        |((with_reducible apply wp_cond_true);exact rfl)
        |((with_reducible apply wp_cond_false);exact rfl)
        |(((with_reducible apply wp_cond_split);exact rfl)<;>intro hb<;>(try simp only [bne_iff_ne,ne_eq,bne_eq_false_iff_eq,beq_iff_eq,beq_eq_false_iff_ne,decide_eq_true_eq,decide_eq_false_iff_not,Bool.not_eq_true',Bool.not_eq_false',Bool.and_eq_true,Bool.or_eq_true,Bool.and_eq_false_iff,Bool.or_eq_false_iff,Int.not_lt,Int.not_le,Bool.not_eq_true,Bool.not_eq_false] at hb)<;>(try (have hbl:=And.left hb;have hbr:=And.right hb))<;>(try (have hbll:=And.left hbl;have hblr:=And.right hbl))<;>(try first|contradiction|exact (bff hb (by assumption)).elim|exact (bft hb (by assumption)).elim|(exfalso;omega)))
        | ((with_reducible apply (wp_region_lit (id:=0)))
           ((with_reducible apply l_assign);(focus (first|(simp only [EE];done)|(simp only [EE];exact rfl)|exact rfl));(try simp only [SS,Nat.reduceAdd]))
           ((with_reducible apply l_assign);(focus (first|(simp only [EE];done)|(simp only [EE];exact rfl)|exact rfl));(try simp only [SS,Nat.reduceAdd]))
           (with_reducible apply wpList_nil))
        | ((with_reducible apply (wp_region_lit (id:=1)))
           ((with_reducible apply l_assign);(focus (first|(simp only [EE];done)|(simp only [EE];exact rfl)|exact rfl));(try simp only [SS,Nat.reduceAdd]))
           (with_reducible apply wpList_nil))
        | ((with_reducible apply (wp_region_seq (id:=5)))
           ((with_reducible apply p_move);(focus (first|(simp only [EE];done)|(simp only [EE];exact rfl)|exact rfl));(try simp only [SS,Nat.reduceAdd]))
           ((with_reducible apply p_lss);exact rfl;exact rfl;(try simp only [SS,Nat.reduceAdd]))
           ((with_reducible apply p_move);(focus (first|(simp only [EE];done)|(simp only [EE];exact rfl)|exact rfl));(try simp only [SS,Nat.reduceAdd]))
           ((with_reducible apply par_cf);exact rfl;exact rfl;(focus (intro hg1 w1 hx K hK;have hq1:=hg1;(try simp only [decide_eq_true_eq,decide_eq_false_iff_not,Int.not_lt,Int.not_le] at hq1);(try simp only [hg1,GS2] at hK ⊢);((with_reducible apply r_move);(focus (first|(simp only [EE];done)|(simp only [EE];exact rfl)|exact rfl));exact hK _ (Ext.refl _))));(try simp only [SS,Nat.reduceAdd]))
           ((with_reducible apply par_cf);exact rfl;exact rfl;(focus (intro hg1 w1 hx K hK;have hq1:=hg1;(try simp only [decide_eq_true_eq,decide_eq_false_iff_not,Int.not_lt,Int.not_le] at hq1);(try simp only [hg1,GS2] at hK ⊢);((with_reducible apply r_move);(focus (first|(simp only [EE];done)|(simp only [EE];exact rfl)|exact rfl));exact hK _ (Ext.refl _))));(try simp only [SS,Nat.reduceAdd]))
           ((with_reducible apply par_cf);exact rfl;exact rfl;(focus (intro hg1 w1 hx K hK;have hq1:=hg1;(try simp only [decide_eq_true_eq,decide_eq_false_iff_not,Int.not_lt,Int.not_le] at hq1);(try simp only [hg1,GS2] at hK ⊢);((with_reducible apply r_lss);exact rfl;exact rfl;exact hK _ (Ext.refl _))));(try simp only [SS,Nat.reduceAdd]))
           ((with_reducible apply p_or);exact rfl;exact rfl;(try simp only [SS,Nat.reduceAdd]))
           ((with_reducible apply par_nil);intro v5 hv5 _))
        | ((with_reducible apply (wp_region_lit (id:=6)))
           ((with_reducible apply l_move);(focus (first|(simp only [EE];done)|(simp only [EE];exact rfl)|exact rfl));(try simp only [SS,Nat.reduceAdd]))
           ((with_reducible apply l_assign);(focus (first|(simp only [EE];done)|(simp only [EE];exact rfl)|exact rfl));(try simp only [SS,Nat.reduceAdd]))
           (with_reducible apply wpList_nil))
        | ((with_reducible apply (wp_region_lit (id:=7)))
           ((with_reducible apply l_move);(focus (first|(simp only [EE];done)|(simp only [EE];exact rfl)|exact rfl));(try simp only [SS,Nat.reduceAdd]))
           ((with_reducible apply l_move);(focus (first|(simp only [EE];done)|(simp only [EE];exact rfl)|exact rfl));(try simp only [SS,Nat.reduceAdd]))
           ((with_reducible apply l_geq);exact rfl;exact rfl;(try simp only [SS,Nat.reduceAdd]))
           ((with_reducible apply l_assign);(focus (first|(simp only [EE];done)|(simp only [EE];exact rfl)|exact rfl));(try simp only [SS,Nat.reduceAdd]))
           ((with_reducible apply l_assign);(focus (first|(simp only [EE];done)|(simp only [EE];exact rfl)|exact rfl));(try simp only [SS,Nat.reduceAdd]))
           (with_reducible apply wpList_nil))
        | ((fail_if_success (with_reducible apply no_region));(fail_if_success (with_reducible apply no_list));(fail_if_success (with_reducible apply no_oper));(fail_if_success (with_reducible apply no_par));(fail_if_success (with_reducible apply no_loop));go_step))
  with_reducible apply (wp_region_lit (id:=2))
  (with_reducible apply l_move);(focus (first|(simp only [EE];done)|(simp only [EE];exact rfl)|exact rfl));(try simp only [SS,Nat.reduceAdd])
  (with_reducible apply l_nilCheck);exact rfl;(try simp only [SS,Nat.reduceAdd])
  (with_reducible apply l_fieldAddr);exact rfl;(try simp only [SS,Nat.reduceAdd])
  (with_reducible apply l_load1);exact rfl;exact hc;(try simp only [SS,Nat.reduceAdd])
  refine l_range Tryd.underlying52 rfl hm ?_
  (try simp only [SS,Nat.reduceAdd])
  with_reducible apply wpList_nil
  repeat' (
      first
        |((with_reducible apply wp_seq_k);intro K hK)
        |(simp only [Exit.then,Exit.inBlock,↓reduceIte,Nat.reduceEqDiff])
        |with_reducible apply wp_block
        |with_reducible apply wp_skip
        |with_reducible apply wp_exit
        |((with_reducible apply wp_cond_true);exact rfl)
        |((with_reducible apply wp_cond_false);exact rfl)
        |(((with_reducible apply wp_cond_split);exact rfl)<;>intro hb<;>(try simp only [bne_iff_ne,ne_eq,bne_eq_false_iff_eq,beq_iff_eq,beq_eq_false_iff_ne,decide_eq_true_eq,decide_eq_false_iff_not,Bool.not_eq_true',Bool.not_eq_false',Bool.and_eq_true,Bool.or_eq_true,Bool.and_eq_false_iff,Bool.or_eq_false_iff,Int.not_lt,Int.not_le,Bool.not_eq_true,Bool.not_eq_false] at hb)<;>(try (have hbl:=And.left hb;have hbr:=And.right hb))<;>(try (have hbll:=And.left hbl;have hblr:=And.right hbl))<;>(try first|contradiction|exact (bff hb (by assumption)).elim|exact (bft hb (by assumption)).elim|(exfalso;omega)))
        | ((with_reducible apply (wp_region_lit (id:=0)))
           ((with_reducible apply l_assign);(focus (first|(simp only [EE];done)|(simp only [EE];exact rfl)|exact rfl));(try simp only [SS,Nat.reduceAdd]))
           ((with_reducible apply l_assign);(focus (first|(simp only [EE];done)|(simp only [EE];exact rfl)|exact rfl));(try simp only [SS,Nat.reduceAdd]))
           (with_reducible apply wpList_nil))
        | ((with_reducible apply (wp_region_lit (id:=1)))
           ((with_reducible apply l_assign);(focus (first|(simp only [EE];done)|(simp only [EE];exact rfl)|exact rfl));(try simp only [SS,Nat.reduceAdd]))
           (with_reducible apply wpList_nil))
        | ((with_reducible apply (wp_region_seq (id:=5)))
           ((with_reducible apply p_move);(focus (first|(simp only [EE];done)|(simp only [EE];exact rfl)|exact rfl));(try simp only [SS,Nat.reduceAdd]))
           ((with_reducible apply p_lss);exact rfl;exact rfl;(try simp only [SS,Nat.reduceAdd]))
           ((with_reducible apply p_move);(focus (first|(simp only [EE];done)|(simp only [EE];exact rfl)|exact rfl));(try simp only [SS,Nat.reduceAdd]))
           ((with_reducible apply par_cf);exact rfl;exact rfl;(focus (intro hg1 w1 hx K hK;have hq1:=hg1;(try simp only [decide_eq_true_eq,decide_eq_false_iff_not,Int.not_lt,Int.not_le] at hq1);(try simp only [hg1,GS2] at hK ⊢);((with_reducible apply r_move);(focus (first|(simp only [EE];done)|(simp only [EE];exact rfl)|exact rfl));exact hK _ (Ext.refl _))));(try simp only [SS,Nat.reduceAdd]))
           ((with_reducible apply par_cf);exact rfl;exact rfl;(focus (intro hg1 w1 hx K hK;have hq1:=hg1;(try simp only [decide_eq_true_eq,decide_eq_false_iff_not,Int.not_lt,Int.not_le] at hq1);(try simp only [hg1,GS2] at hK ⊢);((with_reducible apply r_move);(focus (first|(simp only [EE];done)|(simp only [EE];exact rfl)|exact rfl));exact hK _ (Ext.refl _))));(try simp only [SS,Nat.reduceAdd]))
           ((with_reducible apply par_cf);exact rfl;exact rfl;(focus (intro hg1 w1 hx K hK;have hq1:=hg1;(try simp only [decide_eq_true_eq,decide_eq_false_iff_not,Int.not_lt,Int.not_le] at hq1);(try simp only [hg1,GS2] at hK ⊢);((with_reducible apply r_lss);exact rfl;exact rfl;exact hK _ (Ext.refl _))));(try simp only [SS,Nat.reduceAdd]))
           ((with_reducible apply p_or);exact rfl;exact rfl;(try simp only [SS,Nat.reduceAdd]))
           ((with_reducible apply par_nil);intro v5 hv5 _))
        | ((with_reducible apply (wp_region_lit (id:=6)))
           ((with_reducible apply l_move);(focus (first|(simp only [EE];done)|(simp only [EE];exact rfl)|exact rfl));(try simp only [SS,Nat.reduceAdd]))
           ((with_reducible apply l_assign);(focus (first|(simp only [EE];done)|(simp only [EE];exact rfl)|exact rfl));(try simp only [SS,Nat.reduceAdd]))
           (with_reducible apply wpList_nil))
        | ((with_reducible apply (wp_region_lit (id:=7)))
           ((with_reducible apply l_move);(focus (first|(simp only [EE];done)|(simp only [EE];exact rfl)|exact rfl));(try simp only [SS,Nat.reduceAdd]))
           ((with_reducible apply l_move);(focus (first|(simp only [EE];done)|(simp only [EE];exact rfl)|exact rfl));(try simp only [SS,Nat.reduceAdd]))
           ((with_reducible apply l_geq);exact rfl;exact rfl;(try simp only [SS,Nat.reduceAdd]))
           ((with_reducible apply l_assign);(focus (first|(simp only [EE];done)|(simp only [EE];exact rfl)|exact rfl));(try simp only [SS,Nat.reduceAdd]))
           ((with_reducible apply l_assign);(focus (first|(simp only [EE];done)|(simp only [EE];exact rfl)|exact rfl));(try simp only [SS,Nat.reduceAdd]))
           (with_reducible apply wpList_nil))
        | ((fail_if_success (with_reducible apply no_region));(fail_if_success (with_reducible apply no_list));(fail_if_success (with_reducible apply no_oper));(fail_if_success (with_reducible apply no_par));(fail_if_success (with_reducible apply no_loop));go_step))
  go_loopw [4] (fun v wr=>∃ (best:Int) (seen:Array Nat),v=.int .i64 best∧wr.heap[w.heap.size]?=some (.mapIter (some m) clock seen clock)∧Ext w wr∧Best (fun e=>valI e.val) es seen (-1) best) (fun _ wr=>(leftOf es (seenIn wr w.heap.size)).size)
  case atStart=>exact ⟨-1,#[],rfl,(MapKept.heap_alloc w _).1,Ext.alloc _ _,⟨fun e _ h=>by simp at h,.inl ⟨rfl,fun e _=>by simp⟩⟩⟩
  case round=>
    obtain ⟨best,seen,rfl,hi,hx,hB⟩:=hrel
    have hmr:=(hx.block hml).trans hm
    repeat' (
        first
          |((with_reducible apply wp_seq_k);intro K hK)
          |(simp only [Exit.then,Exit.inBlock,↓reduceIte,Nat.reduceEqDiff])
          |with_reducible apply wp_block
          |with_reducible apply wp_skip
          |with_reducible apply wp_exit
          |((with_reducible apply wp_cond_true);exact rfl)
          |((with_reducible apply wp_cond_false);exact rfl)
          |(((with_reducible apply wp_cond_split);exact rfl)<;>intro hb<;>(try simp only [bne_iff_ne,ne_eq,bne_eq_false_iff_eq,beq_iff_eq,beq_eq_false_iff_ne,decide_eq_true_eq,decide_eq_false_iff_not,Bool.not_eq_true',Bool.not_eq_false',Bool.and_eq_true,Bool.or_eq_true,Bool.and_eq_false_iff,Bool.or_eq_false_iff,Int.not_lt,Int.not_le,Bool.not_eq_true,Bool.not_eq_false] at hb)<;>(try (have hbl:=And.left hb;have hbr:=And.right hb))<;>(try (have hbll:=And.left hbl;have hblr:=And.right hbl))<;>(try first|contradiction|exact (bff hb (by assumption)).elim|exact (bft hb (by assumption)).elim|(exfalso;omega)))
          | ((with_reducible apply (wp_region_lit (id:=0)))
             ((with_reducible apply l_assign);(focus (first|(simp only [EE];done)|(simp only [EE];exact rfl)|exact rfl));(try simp only [SS,Nat.reduceAdd]))
             ((with_reducible apply l_assign);(focus (first|(simp only [EE];done)|(simp only [EE];exact rfl)|exact rfl));(try simp only [SS,Nat.reduceAdd]))
             (with_reducible apply wpList_nil))
          | ((with_reducible apply (wp_region_lit (id:=1)))
             ((with_reducible apply l_assign);(focus (first|(simp only [EE];done)|(simp only [EE];exact rfl)|exact rfl));(try simp only [SS,Nat.reduceAdd]))
             (with_reducible apply wpList_nil))
          | ((with_reducible apply (wp_region_seq (id:=5)))
             ((with_reducible apply p_move);(focus (first|(simp only [EE];done)|(simp only [EE];exact rfl)|exact rfl));(try simp only [SS,Nat.reduceAdd]))
             ((with_reducible apply p_lss);exact rfl;exact rfl;(try simp only [SS,Nat.reduceAdd]))
             ((with_reducible apply p_move);(focus (first|(simp only [EE];done)|(simp only [EE];exact rfl)|exact rfl));(try simp only [SS,Nat.reduceAdd]))
             ((with_reducible apply par_cf);exact rfl;exact rfl;(focus (intro hg1 w1 hx K hK;have hq1:=hg1;(try simp only [decide_eq_true_eq,decide_eq_false_iff_not,Int.not_lt,Int.not_le] at hq1);(try simp only [hg1,GS2] at hK ⊢);((with_reducible apply r_move);(focus (first|(simp only [EE];done)|(simp only [EE];exact rfl)|exact rfl));exact hK _ (Ext.refl _))));(try simp only [SS,Nat.reduceAdd]))
             ((with_reducible apply par_cf);exact rfl;exact rfl;(focus (intro hg1 w1 hx K hK;have hq1:=hg1;(try simp only [decide_eq_true_eq,decide_eq_false_iff_not,Int.not_lt,Int.not_le] at hq1);(try simp only [hg1,GS2] at hK ⊢);((with_reducible apply r_move);(focus (first|(simp only [EE];done)|(simp only [EE];exact rfl)|exact rfl));exact hK _ (Ext.refl _))));(try simp only [SS,Nat.reduceAdd]))
             ((with_reducible apply par_cf);exact rfl;exact rfl;(focus (intro hg1 w1 hx K hK;have hq1:=hg1;(try simp only [decide_eq_true_eq,decide_eq_false_iff_not,Int.not_lt,Int.not_le] at hq1);(try simp only [hg1,GS2] at hK ⊢);((with_reducible apply r_lss);exact rfl;exact rfl;exact hK _ (Ext.refl _))));(try simp only [SS,Nat.reduceAdd]))
             ((with_reducible apply p_or);exact rfl;exact rfl;(try simp only [SS,Nat.reduceAdd]))
             ((with_reducible apply par_nil);intro v5 hv5 _))
          | ((with_reducible apply (wp_region_lit (id:=6)))
             ((with_reducible apply l_move);(focus (first|(simp only [EE];done)|(simp only [EE];exact rfl)|exact rfl));(try simp only [SS,Nat.reduceAdd]))
             ((with_reducible apply l_assign);(focus (first|(simp only [EE];done)|(simp only [EE];exact rfl)|exact rfl));(try simp only [SS,Nat.reduceAdd]))
             (with_reducible apply wpList_nil))
          | ((with_reducible apply (wp_region_lit (id:=7)))
             ((with_reducible apply l_move);(focus (first|(simp only [EE];done)|(simp only [EE];exact rfl)|exact rfl));(try simp only [SS,Nat.reduceAdd]))
             ((with_reducible apply l_move);(focus (first|(simp only [EE];done)|(simp only [EE];exact rfl)|exact rfl));(try simp only [SS,Nat.reduceAdd]))
             ((with_reducible apply l_geq);exact rfl;exact rfl;(try simp only [SS,Nat.reduceAdd]))
             ((with_reducible apply l_assign);(focus (first|(simp only [EE];done)|(simp only [EE];exact rfl)|exact rfl));(try simp only [SS,Nat.reduceAdd]))
             ((with_reducible apply l_assign);(focus (first|(simp only [EE];done)|(simp only [EE];exact rfl)|exact rfl));(try simp only [SS,Nat.reduceAdd]))
             (with_reducible apply wpList_nil))
          | ((fail_if_success (with_reducible apply no_region));(fail_if_success (with_reducible apply no_list));(fail_if_success (with_reducible apply no_oper));(fail_if_success (with_reducible apply no_par));(fail_if_success (with_reducible apply no_loop));go_step))
    with_reducible apply (wp_region_lit (id:=3))
    refine l_next rfl hi hmr hold (Nat.le_refl _) (fun hz => ?_) (fun e he d => ?_)
    · (try simp only [SS,Nat.reduceAdd])
      (with_reducible apply l_extract);exact rfl;exact rfl;(try simp only [SS,Nat.reduceAdd])
      with_reducible apply wpList_nil
      repeat' (
          first
            |((with_reducible apply wp_seq_k);intro K hK)
            |(simp only [Exit.then,Exit.inBlock,↓reduceIte,Nat.reduceEqDiff])
            |with_reducible apply wp_block
            |with_reducible apply wp_skip
            |with_reducible apply wp_exit
            |((with_reducible apply wp_cond_true);exact rfl)
            |((with_reducible apply wp_cond_false);exact rfl)
            |(((with_reducible apply wp_cond_split);exact rfl)<;>intro hb<;>(try simp only [bne_iff_ne,ne_eq,bne_eq_false_iff_eq,beq_iff_eq,beq_eq_false_iff_ne,decide_eq_true_eq,decide_eq_false_iff_not,Bool.not_eq_true',Bool.not_eq_false',Bool.and_eq_true,Bool.or_eq_true,Bool.and_eq_false_iff,Bool.or_eq_false_iff,Int.not_lt,Int.not_le,Bool.not_eq_true,Bool.not_eq_false] at hb)<;>(try (have hbl:=And.left hb;have hbr:=And.right hb))<;>(try (have hbll:=And.left hbl;have hblr:=And.right hbl))<;>(try first|contradiction|exact (bff hb (by assumption)).elim|exact (bft hb (by assumption)).elim|(exfalso;omega)))
            | ((with_reducible apply (wp_region_lit (id:=0)))
               ((with_reducible apply l_assign);(focus (first|(simp only [EE];done)|(simp only [EE];exact rfl)|exact rfl));(try simp only [SS,Nat.reduceAdd]))
               ((with_reducible apply l_assign);(focus (first|(simp only [EE];done)|(simp only [EE];exact rfl)|exact rfl));(try simp only [SS,Nat.reduceAdd]))
               (with_reducible apply wpList_nil))
            | ((with_reducible apply (wp_region_lit (id:=1)))
               ((with_reducible apply l_assign);(focus (first|(simp only [EE];done)|(simp only [EE];exact rfl)|exact rfl));(try simp only [SS,Nat.reduceAdd]))
               (with_reducible apply wpList_nil))
            | ((with_reducible apply (wp_region_seq (id:=5)))
               ((with_reducible apply p_move);(focus (first|(simp only [EE];done)|(simp only [EE];exact rfl)|exact rfl));(try simp only [SS,Nat.reduceAdd]))
               ((with_reducible apply p_lss);exact rfl;exact rfl;(try simp only [SS,Nat.reduceAdd]))
               ((with_reducible apply p_move);(focus (first|(simp only [EE];done)|(simp only [EE];exact rfl)|exact rfl));(try simp only [SS,Nat.reduceAdd]))
               ((with_reducible apply par_cf);exact rfl;exact rfl;(focus (intro hg1 w1 hx K hK;have hq1:=hg1;(try simp only [decide_eq_true_eq,decide_eq_false_iff_not,Int.not_lt,Int.not_le] at hq1);(try simp only [hg1,GS2] at hK ⊢);((with_reducible apply r_move);(focus (first|(simp only [EE];done)|(simp only [EE];exact rfl)|exact rfl));exact hK _ (Ext.refl _))));(try simp only [SS,Nat.reduceAdd]))
               ((with_reducible apply par_cf);exact rfl;exact rfl;(focus (intro hg1 w1 hx K hK;have hq1:=hg1;(try simp only [decide_eq_true_eq,decide_eq_false_iff_not,Int.not_lt,Int.not_le] at hq1);(try simp only [hg1,GS2] at hK ⊢);((with_reducible apply r_move);(focus (first|(simp only [EE];done)|(simp only [EE];exact rfl)|exact rfl));exact hK _ (Ext.refl _))));(try simp only [SS,Nat.reduceAdd]))
               ((with_reducible apply par_cf);exact rfl;exact rfl;(focus (intro hg1 w1 hx K hK;have hq1:=hg1;(try simp only [decide_eq_true_eq,decide_eq_false_iff_not,Int.not_lt,Int.not_le] at hq1);(try simp only [hg1,GS2] at hK ⊢);((with_reducible apply r_lss);exact rfl;exact rfl;exact hK _ (Ext.refl _))));(try simp only [SS,Nat.reduceAdd]))
               ((with_reducible apply p_or);exact rfl;exact rfl;(try simp only [SS,Nat.reduceAdd]))
               ((with_reducible apply par_nil);intro v5 hv5 _))
            | ((with_reducible apply (wp_region_lit (id:=6)))
               ((with_reducible apply l_move);(focus (first|(simp only [EE];done)|(simp only [EE];exact rfl)|exact rfl));(try simp only [SS,Nat.reduceAdd]))
               ((with_reducible apply l_assign);(focus (first|(simp only [EE];done)|(simp only [EE];exact rfl)|exact rfl));(try simp only [SS,Nat.reduceAdd]))
               (with_reducible apply wpList_nil))
            | ((with_reducible apply (wp_region_lit (id:=7)))
               ((with_reducible apply l_move);(focus (first|(simp only [EE];done)|(simp only [EE];exact rfl)|exact rfl));(try simp only [SS,Nat.reduceAdd]))
               ((with_reducible apply l_move);(focus (first|(simp only [EE];done)|(simp only [EE];exact rfl)|exact rfl));(try simp only [SS,Nat.reduceAdd]))
               ((with_reducible apply l_geq);exact rfl;exact rfl;(try simp only [SS,Nat.reduceAdd]))
               ((with_reducible apply l_assign);(focus (first|(simp only [EE];done)|(simp only [EE];exact rfl)|exact rfl));(try simp only [SS,Nat.reduceAdd]))
               ((with_reducible apply l_assign);(focus (first|(simp only [EE];done)|(simp only [EE];exact rfl)|exact rfl));(try simp only [SS,Nat.reduceAdd]))
               (with_reducible apply wpList_nil))
            | ((fail_if_success (with_reducible apply no_region));(fail_if_success (with_reducible apply no_list));(fail_if_success (with_reducible apply no_oper));(fail_if_success (with_reducible apply no_par));(fail_if_success (with_reducible apply no_loop));go_step))
      go_ret2
      have hb:=hfin best seen (left_none hz) hB
      subst hb
      exact ⟨by rw [hemp];rfl,hx⟩
    · obtain ⟨he1,he2⟩:=mem_left he
      obtain ⟨n,hn,hn0⟩:=hv e he1
      have hsh:=left_shrinks es seen e he
      have hi2:=setIter_at (d:=d) (o':=.mapIter (some m) clock (seen.push e.born) clock) hi
      have hx2:=setIter_ext (d:=d) (o':=.mapIter (some m) clock (seen.push e.born) clock) hx (Nat.le_refl _)
      have hmr2:=(hx2.block hml).trans hm
      have hf:valI e.val=n:=by rw [hn];rfl
      have hnn:best < 0→∀ e' ∈ es.toList,seen.contains e'.born=false:=fun hb=>by
        rcases hB.2 with ⟨_,h⟩|⟨e',he',_,h⟩
        · exact h
        · obtain ⟨k,hk,hk0⟩:=hv e' he'
          dsimp only at h
          rw [hk] at h
          have h:k=best:=h
          omega
      have hB1:Best (fun e=>valI e.val) es (seen.push e.born) (-1) (if best < 0∨n < best then n else best):=hB.push hs.2 he1 (by
        rw [hf]
        split
        · rename_i h
          exact .inl ⟨rfl,fun h2=>hnn (by omega)⟩
        · rename_i h
          refine .inr ⟨rfl,by omega,?_⟩
          rcases hB.2 with ⟨h3,_⟩|h3
          · omega
          · exact h3)
      rw [hn]
      generalize World.setIter wr w.heap.size d (.mapIter (some m) clock (seen.push e.born) clock)=wn at hi2 hx2 hmr2 ⊢
      (try simp only [SS,Nat.reduceAdd])
      (with_reducible apply l_extract);exact rfl;exact rfl;(try simp only [SS,Nat.reduceAdd])
      with_reducible apply wpList_nil
      repeat' (
          first
            |((with_reducible apply wp_seq_k);intro K hK)
            |(simp only [Exit.then,Exit.inBlock,↓reduceIte,Nat.reduceEqDiff])
            |with_reducible apply wp_block
            |with_reducible apply wp_skip
            |with_reducible apply wp_exit
            |((with_reducible apply wp_cond_true);exact rfl)
            |((with_reducible apply wp_cond_false);exact rfl)
            |(((with_reducible apply wp_cond_split);exact rfl)<;>intro hb<;>(try simp only [bne_iff_ne,ne_eq,bne_eq_false_iff_eq,beq_iff_eq,beq_eq_false_iff_ne,decide_eq_true_eq,decide_eq_false_iff_not,Bool.not_eq_true',Bool.not_eq_false',Bool.and_eq_true,Bool.or_eq_true,Bool.and_eq_false_iff,Bool.or_eq_false_iff,Int.not_lt,Int.not_le,Bool.not_eq_true,Bool.not_eq_false] at hb)<;>(try (have hbl:=And.left hb;have hbr:=And.right hb))<;>(try (have hbll:=And.left hbl;have hblr:=And.right hbl))<;>(try first|contradiction|exact (bff hb (by assumption)).elim|exact (bft hb (by assumption)).elim|(exfalso;omega)))
            | ((with_reducible apply (wp_region_lit (id:=0)))
               ((with_reducible apply l_assign);(focus (first|(simp only [EE];done)|(simp only [EE];exact rfl)|exact rfl));(try simp only [SS,Nat.reduceAdd]))
               ((with_reducible apply l_assign);(focus (first|(simp only [EE];done)|(simp only [EE];exact rfl)|exact rfl));(try simp only [SS,Nat.reduceAdd]))
               (with_reducible apply wpList_nil))
            | ((with_reducible apply (wp_region_lit (id:=1)))
               ((with_reducible apply l_assign);(focus (first|(simp only [EE];done)|(simp only [EE];exact rfl)|exact rfl));(try simp only [SS,Nat.reduceAdd]))
               (with_reducible apply wpList_nil))
            | ((with_reducible apply (wp_region_seq (id:=5)))
               ((with_reducible apply p_move);(focus (first|(simp only [EE];done)|(simp only [EE];exact rfl)|exact rfl));(try simp only [SS,Nat.reduceAdd]))
               ((with_reducible apply p_lss);exact rfl;exact rfl;(try simp only [SS,Nat.reduceAdd]))
               ((with_reducible apply p_move);(focus (first|(simp only [EE];done)|(simp only [EE];exact rfl)|exact rfl));(try simp only [SS,Nat.reduceAdd]))
               ((with_reducible apply par_cf);exact rfl;exact rfl;(focus (intro hg1 w1 hx K hK;have hq1:=hg1;(try simp only [decide_eq_true_eq,decide_eq_false_iff_not,Int.not_lt,Int.not_le] at hq1);(try simp only [hg1,GS2] at hK ⊢);((with_reducible apply r_move);(focus (first|(simp only [EE];done)|(simp only [EE];exact rfl)|exact rfl));exact hK _ (Ext.refl _))));(try simp only [SS,Nat.reduceAdd]))
               ((with_reducible apply par_cf);exact rfl;exact rfl;(focus (intro hg1 w1 hx K hK;have hq1:=hg1;(try simp only [decide_eq_true_eq,decide_eq_false_iff_not,Int.not_lt,Int.not_le] at hq1);(try simp only [hg1,GS2] at hK ⊢);((with_reducible apply r_move);(focus (first|(simp only [EE];done)|(simp only [EE];exact rfl)|exact rfl));exact hK _ (Ext.refl _))));(try simp only [SS,Nat.reduceAdd]))
               ((with_reducible apply par_cf);exact rfl;exact rfl;(focus (intro hg1 w1 hx K hK;have hq1:=hg1;(try simp only [decide_eq_true_eq,decide_eq_false_iff_not,Int.not_lt,Int.not_le] at hq1);(try simp only [hg1,GS2] at hK ⊢);((with_reducible apply r_lss);exact rfl;exact rfl;exact hK _ (Ext.refl _))));(try simp only [SS,Nat.reduceAdd]))
               ((with_reducible apply p_or);exact rfl;exact rfl;(try simp only [SS,Nat.reduceAdd]))
               ((with_reducible apply par_nil);intro v5 hv5 _))
            | ((with_reducible apply (wp_region_lit (id:=6)))
               ((with_reducible apply l_move);(focus (first|(simp only [EE];done)|(simp only [EE];exact rfl)|exact rfl));(try simp only [SS,Nat.reduceAdd]))
               ((with_reducible apply l_assign);(focus (first|(simp only [EE];done)|(simp only [EE];exact rfl)|exact rfl));(try simp only [SS,Nat.reduceAdd]))
               (with_reducible apply wpList_nil))
            | ((with_reducible apply (wp_region_lit (id:=7)))
               ((with_reducible apply l_move);(focus (first|(simp only [EE];done)|(simp only [EE];exact rfl)|exact rfl));(try simp only [SS,Nat.reduceAdd]))
               ((with_reducible apply l_move);(focus (first|(simp only [EE];done)|(simp only [EE];exact rfl)|exact rfl));(try simp only [SS,Nat.reduceAdd]))
               ((with_reducible apply l_geq);exact rfl;exact rfl;(try simp only [SS,Nat.reduceAdd]))
               ((with_reducible apply l_assign);(focus (first|(simp only [EE];done)|(simp only [EE];exact rfl)|exact rfl));(try simp only [SS,Nat.reduceAdd]))
               ((with_reducible apply l_assign);(focus (first|(simp only [EE];done)|(simp only [EE];exact rfl)|exact rfl));(try simp only [SS,Nat.reduceAdd]))
               (with_reducible apply wpList_nil))
            | ((fail_if_success (with_reducible apply no_region));(fail_if_success (with_reducible apply no_list));(fail_if_success (with_reducible apply no_oper));(fail_if_success (with_reducible apply no_par));(fail_if_success (with_reducible apply no_loop));go_step))
      with_reducible apply (wp_region_lit (id:=4))
      refine l_entry rfl hi2 hmr2 he1 hs.2 ?_
      rw [hn]
      (try simp only [SS,Nat.reduceAdd])
      (with_reducible apply l_extract);exact rfl;exact rfl;(try simp only [SS,Nat.reduceAdd])
      (with_reducible apply l_assign);(focus (first|(simp only [EE];done)|(simp only [EE];exact rfl)|exact rfl));(try simp only [SS,Nat.reduceAdd])
      with_reducible apply wpList_nil
      repeat' (
          first
            |((with_reducible apply wp_seq_k);intro K hK)
            |(simp only [Exit.then,Exit.inBlock,↓reduceIte,Nat.reduceEqDiff])
            |with_reducible apply wp_block
            |with_reducible apply wp_skip
            |with_reducible apply wp_exit
            |((with_reducible apply wp_cond_true);exact rfl)
            |((with_reducible apply wp_cond_false);exact rfl)
            |(((with_reducible apply wp_cond_split);exact rfl)<;>intro hb<;>(try simp only [bne_iff_ne,ne_eq,bne_eq_false_iff_eq,beq_iff_eq,beq_eq_false_iff_ne,decide_eq_true_eq,decide_eq_false_iff_not,Bool.not_eq_true',Bool.not_eq_false',Bool.and_eq_true,Bool.or_eq_true,Bool.and_eq_false_iff,Bool.or_eq_false_iff,Int.not_lt,Int.not_le,Bool.not_eq_true,Bool.not_eq_false] at hb)<;>(try (have hbl:=And.left hb;have hbr:=And.right hb))<;>(try (have hbll:=And.left hbl;have hblr:=And.right hbl))<;>(try first|contradiction|exact (bff hb (by assumption)).elim|exact (bft hb (by assumption)).elim|(exfalso;omega)))
            | ((with_reducible apply (wp_region_lit (id:=0)))
               ((with_reducible apply l_assign);(focus (first|(simp only [EE];done)|(simp only [EE];exact rfl)|exact rfl));(try simp only [SS,Nat.reduceAdd]))
               ((with_reducible apply l_assign);(focus (first|(simp only [EE];done)|(simp only [EE];exact rfl)|exact rfl));(try simp only [SS,Nat.reduceAdd]))
               (with_reducible apply wpList_nil))
            | ((with_reducible apply (wp_region_lit (id:=1)))
               ((with_reducible apply l_assign);(focus (first|(simp only [EE];done)|(simp only [EE];exact rfl)|exact rfl));(try simp only [SS,Nat.reduceAdd]))
               (with_reducible apply wpList_nil))
            | ((with_reducible apply (wp_region_seq (id:=5)))
               ((with_reducible apply p_move);(focus (first|(simp only [EE];done)|(simp only [EE];exact rfl)|exact rfl));(try simp only [SS,Nat.reduceAdd]))
               ((with_reducible apply p_lss);exact rfl;exact rfl;(try simp only [SS,Nat.reduceAdd]))
               ((with_reducible apply p_move);(focus (first|(simp only [EE];done)|(simp only [EE];exact rfl)|exact rfl));(try simp only [SS,Nat.reduceAdd]))
               ((with_reducible apply par_cf);exact rfl;exact rfl;(focus (intro hg1 w1 hx K hK;have hq1:=hg1;(try simp only [decide_eq_true_eq,decide_eq_false_iff_not,Int.not_lt,Int.not_le] at hq1);(try simp only [hg1,GS2] at hK ⊢);((with_reducible apply r_move);(focus (first|(simp only [EE];done)|(simp only [EE];exact rfl)|exact rfl));exact hK _ (Ext.refl _))));(try simp only [SS,Nat.reduceAdd]))
               ((with_reducible apply par_cf);exact rfl;exact rfl;(focus (intro hg1 w1 hx K hK;have hq1:=hg1;(try simp only [decide_eq_true_eq,decide_eq_false_iff_not,Int.not_lt,Int.not_le] at hq1);(try simp only [hg1,GS2] at hK ⊢);((with_reducible apply r_move);(focus (first|(simp only [EE];done)|(simp only [EE];exact rfl)|exact rfl));exact hK _ (Ext.refl _))));(try simp only [SS,Nat.reduceAdd]))
               ((with_reducible apply par_cf);exact rfl;exact rfl;(focus (intro hg1 w1 hx K hK;have hq1:=hg1;(try simp only [decide_eq_true_eq,decide_eq_false_iff_not,Int.not_lt,Int.not_le] at hq1);(try simp only [hg1,GS2] at hK ⊢);((with_reducible apply r_lss);exact rfl;exact rfl;exact hK _ (Ext.refl _))));(try simp only [SS,Nat.reduceAdd]))
               ((with_reducible apply p_or);exact rfl;exact rfl;(try simp only [SS,Nat.reduceAdd]))
               ((with_reducible apply par_nil);intro v5 hv5 _))
            | ((with_reducible apply (wp_region_lit (id:=6)))
               ((with_reducible apply l_move);(focus (first|(simp only [EE];done)|(simp only [EE];exact rfl)|exact rfl));(try simp only [SS,Nat.reduceAdd]))
               ((with_reducible apply l_assign);(focus (first|(simp only [EE];done)|(simp only [EE];exact rfl)|exact rfl));(try simp only [SS,Nat.reduceAdd]))
               (with_reducible apply wpList_nil))
            | ((with_reducible apply (wp_region_lit (id:=7)))
               ((with_reducible apply l_move);(focus (first|(simp only [EE];done)|(simp only [EE];exact rfl)|exact rfl));(try simp only [SS,Nat.reduceAdd]))
               ((with_reducible apply l_move);(focus (first|(simp only [EE];done)|(simp only [EE];exact rfl)|exact rfl));(try simp only [SS,Nat.reduceAdd]))
               ((with_reducible apply l_geq);exact rfl;exact rfl;(try simp only [SS,Nat.reduceAdd]))
               ((with_reducible apply l_assign);(focus (first|(simp only [EE];done)|(simp only [EE];exact rfl)|exact rfl));(try simp only [SS,Nat.reduceAdd]))
               ((with_reducible apply l_assign);(focus (first|(simp only [EE];done)|(simp only [EE];exact rfl)|exact rfl));(try simp only [SS,Nat.reduceAdd]))
               (with_reducible apply wpList_nil))
            | ((fail_if_success (with_reducible apply no_region));(fail_if_success (with_reducible apply no_list));(fail_if_success (with_reducible apply no_oper));(fail_if_success (with_reducible apply no_par));(fail_if_success (with_reducible apply no_loop));go_step))
      all_goals
        have hi5:=(hv5.block (Array.getElem?_eq_some_iff.1 hi2).1).trans hi2
        refine ⟨⟨_,_,rfl,hi5,hx2.trans hv5,?_⟩,by rw [seenIn_eq hi5,seenIn_eq hi];exact hsh⟩
      · rw [if_pos (by omega)] at hB1
        exact hB1
      · rw [if_neg (by omega)] at hB1
        exact hB1
theorem lowest_low (held:List Sn) (w:World) (b0 o m clock:Nat) (es:Array MapEntry) (hc:w.cell? ⟨b0,o+5,none⟩=some (.map (some m))) (hm:w.heap[m]?=some (.map es clock)) (hp:es.toList.map pr=plV held) (hs:Stamped es clock):
    Calls Tryd.prog 28 #[.pointer (some ⟨b0,o,none⟩)] w fun e w'=>e=.returned (.int .i64 (lowS held))∧Ext w w':=by
  have hold:∀ x ∈ es.toList,x.born < clock:=fun x hx=>hs.1 _ (List.mem_map_of_mem hx)
  have hv:∀ e ∈ es.toList,∃ n,e.key=.int .i64 n:=fun e he=>by
    obtain ⟨y,hy,h2,_⟩:=ent_at hp he
    exact ⟨_,h2⟩
  have hml:m < w.heap.size:=(Array.getElem?_eq_some_iff.1 hm).1
  have hfin:∀ b seen,(∀ e ∈ es.toList,seen.contains e.born=true)→Best (fun e=>valI e.key) es seen 0 b→b=lowS held:=fun b seen h hB=>
    ent_fin (g:=Sn.pl) h (fun e he=>by obtain ⟨y,hy,h2,_⟩:=ent_at hp he;exact ⟨y,hy,by rw [h2];rfl⟩) (fun y hy=>by obtain ⟨e,he,h2,_⟩:=ent_of hp hy;exact ⟨e,he,by rw [h2];rfl⟩) (fun h=>by rw [h];rfl) lowS_mem hB
  go_enter Tryd.func28,Tryd.ntmps28
  repeat' (
      first
        |((with_reducible apply wp_seq_k);intro K hK)
        |(simp only [Exit.then,Exit.inBlock,↓reduceIte,Nat.reduceEqDiff])
        |with_reducible apply wp_block
        |with_reducible apply wp_skip
        |with_reducible apply wp_exit
        |((with_reducible apply wp_cond_true);exact rfl)
        |((with_reducible apply wp_cond_false);exact rfl)
        |(((with_reducible apply wp_cond_split);exact rfl)<;>intro hb<;>(try simp only [bne_iff_ne,ne_eq,bne_eq_false_iff_eq,beq_iff_eq,beq_eq_false_iff_ne,decide_eq_true_eq,decide_eq_false_iff_not,Bool.not_eq_true',Bool.not_eq_false',Bool.and_eq_true,Bool.or_eq_true,Bool.and_eq_false_iff,Bool.or_eq_false_iff,Int.not_lt,Int.not_le,Bool.not_eq_true,Bool.not_eq_false] at hb)<;>(try (have hbl:=And.left hb;have hbr:=And.right hb))<;>(try (have hbll:=And.left hbl;have hblr:=And.right hbl))<;>(try first|contradiction|exact (bff hb (by assumption)).elim|exact (bft hb (by assumption)).elim|(exfalso;omega)))
        | ((with_reducible apply (wp_region_lit (id:=0)))
           ((with_reducible apply l_assign);(focus (first|(simp only [EE];done)|(simp only [EE];exact rfl)|exact rfl));(try simp only [SS,Nat.reduceAdd]))
           (with_reducible apply wpList_nil))
        | ((with_reducible apply (wp_region_lit (id:=1)))
           ((with_reducible apply l_assign);(focus (first|(simp only [EE];done)|(simp only [EE];exact rfl)|exact rfl));(try simp only [SS,Nat.reduceAdd]))
           ((with_reducible apply l_assign);(focus (first|(simp only [EE];done)|(simp only [EE];exact rfl)|exact rfl));(try simp only [SS,Nat.reduceAdd]))
           (with_reducible apply wpList_nil))
        | ((with_reducible apply (wp_region_seq (id:=5)))
           ((with_reducible apply p_move);(focus (first|(simp only [EE];done)|(simp only [EE];exact rfl)|exact rfl));(try simp only [SS,Nat.reduceAdd]))
           ((with_reducible apply p_not);exact rfl;(try simp only [SS,Nat.reduceAdd]))
           ((with_reducible apply p_move);(focus (first|(simp only [EE];done)|(simp only [EE];exact rfl)|exact rfl));(try simp only [SS,Nat.reduceAdd]))
           ((with_reducible apply par_cf);exact rfl;exact rfl;(focus (intro hg1 w1 hx K hK;have hq1:=hg1;(try simp only [decide_eq_true_eq,decide_eq_false_iff_not,Int.not_lt,Int.not_le] at hq1);(try simp only [hg1,GS2] at hK ⊢);((with_reducible apply r_move);(focus (first|(simp only [EE];done)|(simp only [EE];exact rfl)|exact rfl));exact hK _ (Ext.refl _))));(try simp only [SS,Nat.reduceAdd]))
           ((with_reducible apply par_cf);exact rfl;exact rfl;(focus (intro hg1 w1 hx K hK;have hq1:=hg1;(try simp only [decide_eq_true_eq,decide_eq_false_iff_not,Int.not_lt,Int.not_le] at hq1);(try simp only [hg1,GS2] at hK ⊢);((with_reducible apply r_move);(focus (first|(simp only [EE];done)|(simp only [EE];exact rfl)|exact rfl));exact hK _ (Ext.refl _))));(try simp only [SS,Nat.reduceAdd]))
           ((with_reducible apply par_cf);exact rfl;exact rfl;(focus (intro hg1 w1 hx K hK;have hq1:=hg1;(try simp only [decide_eq_true_eq,decide_eq_false_iff_not,Int.not_lt,Int.not_le] at hq1);(try simp only [hg1,GS2] at hK ⊢);((with_reducible apply r_lss);exact rfl;exact rfl;exact hK _ (Ext.refl _))));(try simp only [SS,Nat.reduceAdd]))
           ((with_reducible apply p_or);exact rfl;exact rfl;(try simp only [SS,Nat.reduceAdd]))
           ((with_reducible apply par_nil);intro v5 hv5 _))
        | ((with_reducible apply (wp_region_lit (id:=6)))
           ((with_reducible apply l_move);(focus (first|(simp only [EE];done)|(simp only [EE];exact rfl)|exact rfl));(try simp only [SS,Nat.reduceAdd]))
           ((with_reducible apply l_assign);(focus (first|(simp only [EE];done)|(simp only [EE];exact rfl)|exact rfl));(try simp only [SS,Nat.reduceAdd]))
           ((with_reducible apply l_assign);(focus (first|(simp only [EE];done)|(simp only [EE];exact rfl)|exact rfl));(try simp only [SS,Nat.reduceAdd]))
           (with_reducible apply wpList_nil))
        | ((with_reducible apply (wp_region_lit (id:=7)))
           ((with_reducible apply l_move);(focus (first|(simp only [EE];done)|(simp only [EE];exact rfl)|exact rfl));(try simp only [SS,Nat.reduceAdd]))
           ((with_reducible apply l_assign);(focus (first|(simp only [EE];done)|(simp only [EE];exact rfl)|exact rfl));(try simp only [SS,Nat.reduceAdd]))
           (with_reducible apply wpList_nil))
        | ((fail_if_success (with_reducible apply no_region));(fail_if_success (with_reducible apply no_list));(fail_if_success (with_reducible apply no_oper));(fail_if_success (with_reducible apply no_par));(fail_if_success (with_reducible apply no_loop));go_step))
  with_reducible apply (wp_region_lit (id:=2))
  (with_reducible apply l_move);(focus (first|(simp only [EE];done)|(simp only [EE];exact rfl)|exact rfl));(try simp only [SS,Nat.reduceAdd])
  (with_reducible apply l_nilCheck);exact rfl;(try simp only [SS,Nat.reduceAdd])
  (with_reducible apply l_fieldAddr);exact rfl;(try simp only [SS,Nat.reduceAdd])
  (with_reducible apply l_load1);exact rfl;exact hc;(try simp only [SS,Nat.reduceAdd])
  refine l_range Tryd.underlying52 rfl hm ?_
  (try simp only [SS,Nat.reduceAdd])
  with_reducible apply wpList_nil
  repeat' (
      first
        |((with_reducible apply wp_seq_k);intro K hK)
        |(simp only [Exit.then,Exit.inBlock,↓reduceIte,Nat.reduceEqDiff])
        |with_reducible apply wp_block
        |with_reducible apply wp_skip
        |with_reducible apply wp_exit
        |((with_reducible apply wp_cond_true);exact rfl)
        |((with_reducible apply wp_cond_false);exact rfl)
        |(((with_reducible apply wp_cond_split);exact rfl)<;>intro hb<;>(try simp only [bne_iff_ne,ne_eq,bne_eq_false_iff_eq,beq_iff_eq,beq_eq_false_iff_ne,decide_eq_true_eq,decide_eq_false_iff_not,Bool.not_eq_true',Bool.not_eq_false',Bool.and_eq_true,Bool.or_eq_true,Bool.and_eq_false_iff,Bool.or_eq_false_iff,Int.not_lt,Int.not_le,Bool.not_eq_true,Bool.not_eq_false] at hb)<;>(try (have hbl:=And.left hb;have hbr:=And.right hb))<;>(try (have hbll:=And.left hbl;have hblr:=And.right hbl))<;>(try first|contradiction|exact (bff hb (by assumption)).elim|exact (bft hb (by assumption)).elim|(exfalso;omega)))
        | ((with_reducible apply (wp_region_lit (id:=0)))
           ((with_reducible apply l_assign);(focus (first|(simp only [EE];done)|(simp only [EE];exact rfl)|exact rfl));(try simp only [SS,Nat.reduceAdd]))
           (with_reducible apply wpList_nil))
        | ((with_reducible apply (wp_region_lit (id:=1)))
           ((with_reducible apply l_assign);(focus (first|(simp only [EE];done)|(simp only [EE];exact rfl)|exact rfl));(try simp only [SS,Nat.reduceAdd]))
           ((with_reducible apply l_assign);(focus (first|(simp only [EE];done)|(simp only [EE];exact rfl)|exact rfl));(try simp only [SS,Nat.reduceAdd]))
           (with_reducible apply wpList_nil))
        | ((with_reducible apply (wp_region_seq (id:=5)))
           ((with_reducible apply p_move);(focus (first|(simp only [EE];done)|(simp only [EE];exact rfl)|exact rfl));(try simp only [SS,Nat.reduceAdd]))
           ((with_reducible apply p_not);exact rfl;(try simp only [SS,Nat.reduceAdd]))
           ((with_reducible apply p_move);(focus (first|(simp only [EE];done)|(simp only [EE];exact rfl)|exact rfl));(try simp only [SS,Nat.reduceAdd]))
           ((with_reducible apply par_cf);exact rfl;exact rfl;(focus (intro hg1 w1 hx K hK;have hq1:=hg1;(try simp only [decide_eq_true_eq,decide_eq_false_iff_not,Int.not_lt,Int.not_le] at hq1);(try simp only [hg1,GS2] at hK ⊢);((with_reducible apply r_move);(focus (first|(simp only [EE];done)|(simp only [EE];exact rfl)|exact rfl));exact hK _ (Ext.refl _))));(try simp only [SS,Nat.reduceAdd]))
           ((with_reducible apply par_cf);exact rfl;exact rfl;(focus (intro hg1 w1 hx K hK;have hq1:=hg1;(try simp only [decide_eq_true_eq,decide_eq_false_iff_not,Int.not_lt,Int.not_le] at hq1);(try simp only [hg1,GS2] at hK ⊢);((with_reducible apply r_move);(focus (first|(simp only [EE];done)|(simp only [EE];exact rfl)|exact rfl));exact hK _ (Ext.refl _))));(try simp only [SS,Nat.reduceAdd]))
           ((with_reducible apply par_cf);exact rfl;exact rfl;(focus (intro hg1 w1 hx K hK;have hq1:=hg1;(try simp only [decide_eq_true_eq,decide_eq_false_iff_not,Int.not_lt,Int.not_le] at hq1);(try simp only [hg1,GS2] at hK ⊢);((with_reducible apply r_lss);exact rfl;exact rfl;exact hK _ (Ext.refl _))));(try simp only [SS,Nat.reduceAdd]))
           ((with_reducible apply p_or);exact rfl;exact rfl;(try simp only [SS,Nat.reduceAdd]))
           ((with_reducible apply par_nil);intro v5 hv5 _))
        | ((with_reducible apply (wp_region_lit (id:=6)))
           ((with_reducible apply l_move);(focus (first|(simp only [EE];done)|(simp only [EE];exact rfl)|exact rfl));(try simp only [SS,Nat.reduceAdd]))
           ((with_reducible apply l_assign);(focus (first|(simp only [EE];done)|(simp only [EE];exact rfl)|exact rfl));(try simp only [SS,Nat.reduceAdd]))
           ((with_reducible apply l_assign);(focus (first|(simp only [EE];done)|(simp only [EE];exact rfl)|exact rfl));(try simp only [SS,Nat.reduceAdd]))
           (with_reducible apply wpList_nil))
        | ((with_reducible apply (wp_region_lit (id:=7)))
           ((with_reducible apply l_move);(focus (first|(simp only [EE];done)|(simp only [EE];exact rfl)|exact rfl));(try simp only [SS,Nat.reduceAdd]))
           ((with_reducible apply l_assign);(focus (first|(simp only [EE];done)|(simp only [EE];exact rfl)|exact rfl));(try simp only [SS,Nat.reduceAdd]))
           (with_reducible apply wpList_nil))
        | ((fail_if_success (with_reducible apply no_region));(fail_if_success (with_reducible apply no_list));(fail_if_success (with_reducible apply no_oper));(fail_if_success (with_reducible apply no_par));(fail_if_success (with_reducible apply no_loop));go_step))
  go_loopw [3,4] (fun v u wr=>∃ (best:Int) (sm:Bool) (seen:Array Nat),v=.int .i64 best∧u=.bool sm∧wr.heap[w.heap.size]?=some (.mapIter (some m) clock seen clock)∧Ext w wr∧Best (fun e=>valI e.key) es seen 0 best∧(sm=false→∀ e ∈ es.toList,seen.contains e.born=false)∧(sm=true→∃ e ∈ es.toList,seen.contains e.born=true∧valI e.key=best)) (fun _ _ wr=>(leftOf es (seenIn wr w.heap.size)).size)
  case atStart=>exact ⟨0,false,#[],rfl,rfl,(MapKept.heap_alloc w _).1,Ext.alloc _ _,⟨fun e _ h=>by simp at h,.inl ⟨rfl,fun e _=>by simp⟩⟩,fun _ e _=>by simp,fun h=>by cases h⟩
  case round=>
    obtain ⟨best,sm,seen,rfl,rfl,hi,hx,hB,hsf,hst⟩:=hrel
    have hmr:=(hx.block hml).trans hm
    repeat' (
        first
          |((with_reducible apply wp_seq_k);intro K hK)
          |(simp only [Exit.then,Exit.inBlock,↓reduceIte,Nat.reduceEqDiff])
          |with_reducible apply wp_block
          |with_reducible apply wp_skip
          |with_reducible apply wp_exit
          |((with_reducible apply wp_cond_true);exact rfl)
          |((with_reducible apply wp_cond_false);exact rfl)
          |(((with_reducible apply wp_cond_split);exact rfl)<;>intro hb<;>(try simp only [bne_iff_ne,ne_eq,bne_eq_false_iff_eq,beq_iff_eq,beq_eq_false_iff_ne,decide_eq_true_eq,decide_eq_false_iff_not,Bool.not_eq_true',Bool.not_eq_false',Bool.and_eq_true,Bool.or_eq_true,Bool.and_eq_false_iff,Bool.or_eq_false_iff,Int.not_lt,Int.not_le,Bool.not_eq_true,Bool.not_eq_false] at hb)<;>(try (have hbl:=And.left hb;have hbr:=And.right hb))<;>(try (have hbll:=And.left hbl;have hblr:=And.right hbl))<;>(try first|contradiction|exact (bff hb (by assumption)).elim|exact (bft hb (by assumption)).elim|(exfalso;omega)))
          | ((with_reducible apply (wp_region_lit (id:=0)))
             ((with_reducible apply l_assign);(focus (first|(simp only [EE];done)|(simp only [EE];exact rfl)|exact rfl));(try simp only [SS,Nat.reduceAdd]))
             (with_reducible apply wpList_nil))
          | ((with_reducible apply (wp_region_lit (id:=1)))
             ((with_reducible apply l_assign);(focus (first|(simp only [EE];done)|(simp only [EE];exact rfl)|exact rfl));(try simp only [SS,Nat.reduceAdd]))
             ((with_reducible apply l_assign);(focus (first|(simp only [EE];done)|(simp only [EE];exact rfl)|exact rfl));(try simp only [SS,Nat.reduceAdd]))
             (with_reducible apply wpList_nil))
          | ((with_reducible apply (wp_region_seq (id:=5)))
             ((with_reducible apply p_move);(focus (first|(simp only [EE];done)|(simp only [EE];exact rfl)|exact rfl));(try simp only [SS,Nat.reduceAdd]))
             ((with_reducible apply p_not);exact rfl;(try simp only [SS,Nat.reduceAdd]))
             ((with_reducible apply p_move);(focus (first|(simp only [EE];done)|(simp only [EE];exact rfl)|exact rfl));(try simp only [SS,Nat.reduceAdd]))
             ((with_reducible apply par_cf);exact rfl;exact rfl;(focus (intro hg1 w1 hx K hK;have hq1:=hg1;(try simp only [decide_eq_true_eq,decide_eq_false_iff_not,Int.not_lt,Int.not_le] at hq1);(try simp only [hg1,GS2] at hK ⊢);((with_reducible apply r_move);(focus (first|(simp only [EE];done)|(simp only [EE];exact rfl)|exact rfl));exact hK _ (Ext.refl _))));(try simp only [SS,Nat.reduceAdd]))
             ((with_reducible apply par_cf);exact rfl;exact rfl;(focus (intro hg1 w1 hx K hK;have hq1:=hg1;(try simp only [decide_eq_true_eq,decide_eq_false_iff_not,Int.not_lt,Int.not_le] at hq1);(try simp only [hg1,GS2] at hK ⊢);((with_reducible apply r_move);(focus (first|(simp only [EE];done)|(simp only [EE];exact rfl)|exact rfl));exact hK _ (Ext.refl _))));(try simp only [SS,Nat.reduceAdd]))
             ((with_reducible apply par_cf);exact rfl;exact rfl;(focus (intro hg1 w1 hx K hK;have hq1:=hg1;(try simp only [decide_eq_true_eq,decide_eq_false_iff_not,Int.not_lt,Int.not_le] at hq1);(try simp only [hg1,GS2] at hK ⊢);((with_reducible apply r_lss);exact rfl;exact rfl;exact hK _ (Ext.refl _))));(try simp only [SS,Nat.reduceAdd]))
             ((with_reducible apply p_or);exact rfl;exact rfl;(try simp only [SS,Nat.reduceAdd]))
             ((with_reducible apply par_nil);intro v5 hv5 _))
          | ((with_reducible apply (wp_region_lit (id:=6)))
             ((with_reducible apply l_move);(focus (first|(simp only [EE];done)|(simp only [EE];exact rfl)|exact rfl));(try simp only [SS,Nat.reduceAdd]))
             ((with_reducible apply l_assign);(focus (first|(simp only [EE];done)|(simp only [EE];exact rfl)|exact rfl));(try simp only [SS,Nat.reduceAdd]))
             ((with_reducible apply l_assign);(focus (first|(simp only [EE];done)|(simp only [EE];exact rfl)|exact rfl));(try simp only [SS,Nat.reduceAdd]))
             (with_reducible apply wpList_nil))
          | ((with_reducible apply (wp_region_lit (id:=7)))
             ((with_reducible apply l_move);(focus (first|(simp only [EE];done)|(simp only [EE];exact rfl)|exact rfl));(try simp only [SS,Nat.reduceAdd]))
             ((with_reducible apply l_assign);(focus (first|(simp only [EE];done)|(simp only [EE];exact rfl)|exact rfl));(try simp only [SS,Nat.reduceAdd]))
             (with_reducible apply wpList_nil))
          | ((fail_if_success (with_reducible apply no_region));(fail_if_success (with_reducible apply no_list));(fail_if_success (with_reducible apply no_oper));(fail_if_success (with_reducible apply no_par));(fail_if_success (with_reducible apply no_loop));go_step))
    with_reducible apply (wp_region_lit (id:=3))
    refine l_next rfl hi hmr hold (Nat.le_refl _) (fun hz => ?_) (fun e he d => ?_)
    · (try simp only [SS,Nat.reduceAdd])
      (with_reducible apply l_extract);exact rfl;exact rfl;(try simp only [SS,Nat.reduceAdd])
      with_reducible apply wpList_nil
      repeat' (
          first
            |((with_reducible apply wp_seq_k);intro K hK)
            |(simp only [Exit.then,Exit.inBlock,↓reduceIte,Nat.reduceEqDiff])
            |with_reducible apply wp_block
            |with_reducible apply wp_skip
            |with_reducible apply wp_exit
            |((with_reducible apply wp_cond_true);exact rfl)
            |((with_reducible apply wp_cond_false);exact rfl)
            |(((with_reducible apply wp_cond_split);exact rfl)<;>intro hb<;>(try simp only [bne_iff_ne,ne_eq,bne_eq_false_iff_eq,beq_iff_eq,beq_eq_false_iff_ne,decide_eq_true_eq,decide_eq_false_iff_not,Bool.not_eq_true',Bool.not_eq_false',Bool.and_eq_true,Bool.or_eq_true,Bool.and_eq_false_iff,Bool.or_eq_false_iff,Int.not_lt,Int.not_le,Bool.not_eq_true,Bool.not_eq_false] at hb)<;>(try (have hbl:=And.left hb;have hbr:=And.right hb))<;>(try (have hbll:=And.left hbl;have hblr:=And.right hbl))<;>(try first|contradiction|exact (bff hb (by assumption)).elim|exact (bft hb (by assumption)).elim|(exfalso;omega)))
            | ((with_reducible apply (wp_region_lit (id:=0)))
               ((with_reducible apply l_assign);(focus (first|(simp only [EE];done)|(simp only [EE];exact rfl)|exact rfl));(try simp only [SS,Nat.reduceAdd]))
               (with_reducible apply wpList_nil))
            | ((with_reducible apply (wp_region_lit (id:=1)))
               ((with_reducible apply l_assign);(focus (first|(simp only [EE];done)|(simp only [EE];exact rfl)|exact rfl));(try simp only [SS,Nat.reduceAdd]))
               ((with_reducible apply l_assign);(focus (first|(simp only [EE];done)|(simp only [EE];exact rfl)|exact rfl));(try simp only [SS,Nat.reduceAdd]))
               (with_reducible apply wpList_nil))
            | ((with_reducible apply (wp_region_seq (id:=5)))
               ((with_reducible apply p_move);(focus (first|(simp only [EE];done)|(simp only [EE];exact rfl)|exact rfl));(try simp only [SS,Nat.reduceAdd]))
               ((with_reducible apply p_not);exact rfl;(try simp only [SS,Nat.reduceAdd]))
               ((with_reducible apply p_move);(focus (first|(simp only [EE];done)|(simp only [EE];exact rfl)|exact rfl));(try simp only [SS,Nat.reduceAdd]))
               ((with_reducible apply par_cf);exact rfl;exact rfl;(focus (intro hg1 w1 hx K hK;have hq1:=hg1;(try simp only [decide_eq_true_eq,decide_eq_false_iff_not,Int.not_lt,Int.not_le] at hq1);(try simp only [hg1,GS2] at hK ⊢);((with_reducible apply r_move);(focus (first|(simp only [EE];done)|(simp only [EE];exact rfl)|exact rfl));exact hK _ (Ext.refl _))));(try simp only [SS,Nat.reduceAdd]))
               ((with_reducible apply par_cf);exact rfl;exact rfl;(focus (intro hg1 w1 hx K hK;have hq1:=hg1;(try simp only [decide_eq_true_eq,decide_eq_false_iff_not,Int.not_lt,Int.not_le] at hq1);(try simp only [hg1,GS2] at hK ⊢);((with_reducible apply r_move);(focus (first|(simp only [EE];done)|(simp only [EE];exact rfl)|exact rfl));exact hK _ (Ext.refl _))));(try simp only [SS,Nat.reduceAdd]))
               ((with_reducible apply par_cf);exact rfl;exact rfl;(focus (intro hg1 w1 hx K hK;have hq1:=hg1;(try simp only [decide_eq_true_eq,decide_eq_false_iff_not,Int.not_lt,Int.not_le] at hq1);(try simp only [hg1,GS2] at hK ⊢);((with_reducible apply r_lss);exact rfl;exact rfl;exact hK _ (Ext.refl _))));(try simp only [SS,Nat.reduceAdd]))
               ((with_reducible apply p_or);exact rfl;exact rfl;(try simp only [SS,Nat.reduceAdd]))
               ((with_reducible apply par_nil);intro v5 hv5 _))
            | ((with_reducible apply (wp_region_lit (id:=6)))
               ((with_reducible apply l_move);(focus (first|(simp only [EE];done)|(simp only [EE];exact rfl)|exact rfl));(try simp only [SS,Nat.reduceAdd]))
               ((with_reducible apply l_assign);(focus (first|(simp only [EE];done)|(simp only [EE];exact rfl)|exact rfl));(try simp only [SS,Nat.reduceAdd]))
               ((with_reducible apply l_assign);(focus (first|(simp only [EE];done)|(simp only [EE];exact rfl)|exact rfl));(try simp only [SS,Nat.reduceAdd]))
               (with_reducible apply wpList_nil))
            | ((with_reducible apply (wp_region_lit (id:=7)))
               ((with_reducible apply l_move);(focus (first|(simp only [EE];done)|(simp only [EE];exact rfl)|exact rfl));(try simp only [SS,Nat.reduceAdd]))
               ((with_reducible apply l_assign);(focus (first|(simp only [EE];done)|(simp only [EE];exact rfl)|exact rfl));(try simp only [SS,Nat.reduceAdd]))
               (with_reducible apply wpList_nil))
            | ((fail_if_success (with_reducible apply no_region));(fail_if_success (with_reducible apply no_list));(fail_if_success (with_reducible apply no_oper));(fail_if_success (with_reducible apply no_par));(fail_if_success (with_reducible apply no_loop));go_step))
      go_ret
      have hb:=hfin best seen (left_none hz) hB
      subst hb
      exact ⟨rfl,hx⟩
    · obtain ⟨he1,he2⟩:=mem_left he
      obtain ⟨n,hn⟩:=hv e he1
      have hsh:=left_shrinks es seen e he
      have hi2:=setIter_at (d:=d) (o':=.mapIter (some m) clock (seen.push e.born) clock) hi
      have hx2:=setIter_ext (d:=d) (o':=.mapIter (some m) clock (seen.push e.born) clock) hx (Nat.le_refl _)
      have hmr2:=(hx2.block hml).trans hm
      have hf:valI e.key=n:=by rw [hn];rfl
      have hB1:Best (fun e=>valI e.key) es (seen.push e.born) 0 (if sm=false∨n < best then n else best):=hB.push hs.2 he1 (by
        rw [hf]
        split
        · rename_i h
          exact .inl ⟨rfl,fun h2=>hsf (by rcases h with h|h;exact h;omega)⟩
        · rename_i h
          exact .inr ⟨rfl,by omega,hst (by cases sm;exact absurd (.inl rfl) h;rfl)⟩)
      have hst1:∀ b,(b=n∨(b=best∧sm=true))→∃ e' ∈ es.toList,(seen.push e.born).contains e'.born=true∧valI e'.key=b:=fun b hb=>by
        rcases hb with rfl|⟨rfl,hb⟩
        · exact ⟨e,he1,by rw [push_contains];simp,hf⟩
        · obtain ⟨e',h1,h2,h3⟩:=hst hb
          exact ⟨e',h1,by rw [push_contains,h2];rfl,h3⟩
      rw [hn]
      generalize World.setIter wr w.heap.size d (.mapIter (some m) clock (seen.push e.born) clock)=wn at hi2 hx2 hmr2 ⊢
      (try simp only [SS,Nat.reduceAdd])
      (with_reducible apply l_extract);exact rfl;exact rfl;(try simp only [SS,Nat.reduceAdd])
      with_reducible apply wpList_nil
      repeat' (
          first
            |((with_reducible apply wp_seq_k);intro K hK)
            |(simp only [Exit.then,Exit.inBlock,↓reduceIte,Nat.reduceEqDiff])
            |with_reducible apply wp_block
            |with_reducible apply wp_skip
            |with_reducible apply wp_exit
            |((with_reducible apply wp_cond_true);exact rfl)
            |((with_reducible apply wp_cond_false);exact rfl)
            |(((with_reducible apply wp_cond_split);exact rfl)<;>intro hb<;>(try simp only [bne_iff_ne,ne_eq,bne_eq_false_iff_eq,beq_iff_eq,beq_eq_false_iff_ne,decide_eq_true_eq,decide_eq_false_iff_not,Bool.not_eq_true',Bool.not_eq_false',Bool.and_eq_true,Bool.or_eq_true,Bool.and_eq_false_iff,Bool.or_eq_false_iff,Int.not_lt,Int.not_le,Bool.not_eq_true,Bool.not_eq_false] at hb)<;>(try (have hbl:=And.left hb;have hbr:=And.right hb))<;>(try (have hbll:=And.left hbl;have hblr:=And.right hbl))<;>(try first|contradiction|exact (bff hb (by assumption)).elim|exact (bft hb (by assumption)).elim|(exfalso;omega)))
            | ((with_reducible apply (wp_region_lit (id:=0)))
               ((with_reducible apply l_assign);(focus (first|(simp only [EE];done)|(simp only [EE];exact rfl)|exact rfl));(try simp only [SS,Nat.reduceAdd]))
               (with_reducible apply wpList_nil))
            | ((with_reducible apply (wp_region_lit (id:=1)))
               ((with_reducible apply l_assign);(focus (first|(simp only [EE];done)|(simp only [EE];exact rfl)|exact rfl));(try simp only [SS,Nat.reduceAdd]))
               ((with_reducible apply l_assign);(focus (first|(simp only [EE];done)|(simp only [EE];exact rfl)|exact rfl));(try simp only [SS,Nat.reduceAdd]))
               (with_reducible apply wpList_nil))
            | ((with_reducible apply (wp_region_seq (id:=5)))
               ((with_reducible apply p_move);(focus (first|(simp only [EE];done)|(simp only [EE];exact rfl)|exact rfl));(try simp only [SS,Nat.reduceAdd]))
               ((with_reducible apply p_not);exact rfl;(try simp only [SS,Nat.reduceAdd]))
               ((with_reducible apply p_move);(focus (first|(simp only [EE];done)|(simp only [EE];exact rfl)|exact rfl));(try simp only [SS,Nat.reduceAdd]))
               ((with_reducible apply par_cf);exact rfl;exact rfl;(focus (intro hg1 w1 hx K hK;have hq1:=hg1;(try simp only [decide_eq_true_eq,decide_eq_false_iff_not,Int.not_lt,Int.not_le] at hq1);(try simp only [hg1,GS2] at hK ⊢);((with_reducible apply r_move);(focus (first|(simp only [EE];done)|(simp only [EE];exact rfl)|exact rfl));exact hK _ (Ext.refl _))));(try simp only [SS,Nat.reduceAdd]))
               ((with_reducible apply par_cf);exact rfl;exact rfl;(focus (intro hg1 w1 hx K hK;have hq1:=hg1;(try simp only [decide_eq_true_eq,decide_eq_false_iff_not,Int.not_lt,Int.not_le] at hq1);(try simp only [hg1,GS2] at hK ⊢);((with_reducible apply r_move);(focus (first|(simp only [EE];done)|(simp only [EE];exact rfl)|exact rfl));exact hK _ (Ext.refl _))));(try simp only [SS,Nat.reduceAdd]))
               ((with_reducible apply par_cf);exact rfl;exact rfl;(focus (intro hg1 w1 hx K hK;have hq1:=hg1;(try simp only [decide_eq_true_eq,decide_eq_false_iff_not,Int.not_lt,Int.not_le] at hq1);(try simp only [hg1,GS2] at hK ⊢);((with_reducible apply r_lss);exact rfl;exact rfl;exact hK _ (Ext.refl _))));(try simp only [SS,Nat.reduceAdd]))
               ((with_reducible apply p_or);exact rfl;exact rfl;(try simp only [SS,Nat.reduceAdd]))
               ((with_reducible apply par_nil);intro v5 hv5 _))
            | ((with_reducible apply (wp_region_lit (id:=6)))
               ((with_reducible apply l_move);(focus (first|(simp only [EE];done)|(simp only [EE];exact rfl)|exact rfl));(try simp only [SS,Nat.reduceAdd]))
               ((with_reducible apply l_assign);(focus (first|(simp only [EE];done)|(simp only [EE];exact rfl)|exact rfl));(try simp only [SS,Nat.reduceAdd]))
               ((with_reducible apply l_assign);(focus (first|(simp only [EE];done)|(simp only [EE];exact rfl)|exact rfl));(try simp only [SS,Nat.reduceAdd]))
               (with_reducible apply wpList_nil))
            | ((with_reducible apply (wp_region_lit (id:=7)))
               ((with_reducible apply l_move);(focus (first|(simp only [EE];done)|(simp only [EE];exact rfl)|exact rfl));(try simp only [SS,Nat.reduceAdd]))
               ((with_reducible apply l_assign);(focus (first|(simp only [EE];done)|(simp only [EE];exact rfl)|exact rfl));(try simp only [SS,Nat.reduceAdd]))
               (with_reducible apply wpList_nil))
            | ((fail_if_success (with_reducible apply no_region));(fail_if_success (with_reducible apply no_list));(fail_if_success (with_reducible apply no_oper));(fail_if_success (with_reducible apply no_par));(fail_if_success (with_reducible apply no_loop));go_step))
      with_reducible apply (wp_region_lit (id:=4))
      refine l_entry rfl hi2 hmr2 he1 hs.2 ?_
      rw [hn]
      (try simp only [SS,Nat.reduceAdd])
      (with_reducible apply l_extract);exact rfl;exact rfl;(try simp only [SS,Nat.reduceAdd])
      (with_reducible apply l_assign);(focus (first|(simp only [EE];done)|(simp only [EE];exact rfl)|exact rfl));(try simp only [SS,Nat.reduceAdd])
      with_reducible apply wpList_nil
      repeat' (
          first
            |((with_reducible apply wp_seq_k);intro K hK)
            |(simp only [Exit.then,Exit.inBlock,↓reduceIte,Nat.reduceEqDiff])
            |with_reducible apply wp_block
            |with_reducible apply wp_skip
            |with_reducible apply wp_exit
            |((with_reducible apply wp_cond_true);exact rfl)
            |((with_reducible apply wp_cond_false);exact rfl)
            |(((with_reducible apply wp_cond_split);exact rfl)<;>intro hb<;>(try simp only [bne_iff_ne,ne_eq,bne_eq_false_iff_eq,beq_iff_eq,beq_eq_false_iff_ne,decide_eq_true_eq,decide_eq_false_iff_not,Bool.not_eq_true',Bool.not_eq_false',Bool.and_eq_true,Bool.or_eq_true,Bool.and_eq_false_iff,Bool.or_eq_false_iff,Int.not_lt,Int.not_le,Bool.not_eq_true,Bool.not_eq_false] at hb)<;>(try (have hbl:=And.left hb;have hbr:=And.right hb))<;>(try (have hbll:=And.left hbl;have hblr:=And.right hbl))<;>(try first|contradiction|exact (bff hb (by assumption)).elim|exact (bft hb (by assumption)).elim|(exfalso;omega)))
            | ((with_reducible apply (wp_region_lit (id:=0)))
               ((with_reducible apply l_assign);(focus (first|(simp only [EE];done)|(simp only [EE];exact rfl)|exact rfl));(try simp only [SS,Nat.reduceAdd]))
               (with_reducible apply wpList_nil))
            | ((with_reducible apply (wp_region_lit (id:=1)))
               ((with_reducible apply l_assign);(focus (first|(simp only [EE];done)|(simp only [EE];exact rfl)|exact rfl));(try simp only [SS,Nat.reduceAdd]))
               ((with_reducible apply l_assign);(focus (first|(simp only [EE];done)|(simp only [EE];exact rfl)|exact rfl));(try simp only [SS,Nat.reduceAdd]))
               (with_reducible apply wpList_nil))
            | ((with_reducible apply (wp_region_seq (id:=5)))
               ((with_reducible apply p_move);(focus (first|(simp only [EE];done)|(simp only [EE];exact rfl)|exact rfl));(try simp only [SS,Nat.reduceAdd]))
               ((with_reducible apply p_not);exact rfl;(try simp only [SS,Nat.reduceAdd]))
               ((with_reducible apply p_move);(focus (first|(simp only [EE];done)|(simp only [EE];exact rfl)|exact rfl));(try simp only [SS,Nat.reduceAdd]))
               ((with_reducible apply par_cf);exact rfl;exact rfl;(focus (intro hg1 w1 hx K hK;have hq1:=hg1;(try simp only [decide_eq_true_eq,decide_eq_false_iff_not,Int.not_lt,Int.not_le] at hq1);(try simp only [hg1,GS2] at hK ⊢);((with_reducible apply r_move);(focus (first|(simp only [EE];done)|(simp only [EE];exact rfl)|exact rfl));exact hK _ (Ext.refl _))));(try simp only [SS,Nat.reduceAdd]))
               ((with_reducible apply par_cf);exact rfl;exact rfl;(focus (intro hg1 w1 hx K hK;have hq1:=hg1;(try simp only [decide_eq_true_eq,decide_eq_false_iff_not,Int.not_lt,Int.not_le] at hq1);(try simp only [hg1,GS2] at hK ⊢);((with_reducible apply r_move);(focus (first|(simp only [EE];done)|(simp only [EE];exact rfl)|exact rfl));exact hK _ (Ext.refl _))));(try simp only [SS,Nat.reduceAdd]))
               ((with_reducible apply par_cf);exact rfl;exact rfl;(focus (intro hg1 w1 hx K hK;have hq1:=hg1;(try simp only [decide_eq_true_eq,decide_eq_false_iff_not,Int.not_lt,Int.not_le] at hq1);(try simp only [hg1,GS2] at hK ⊢);((with_reducible apply r_lss);exact rfl;exact rfl;exact hK _ (Ext.refl _))));(try simp only [SS,Nat.reduceAdd]))
               ((with_reducible apply p_or);exact rfl;exact rfl;(try simp only [SS,Nat.reduceAdd]))
               ((with_reducible apply par_nil);intro v5 hv5 _))
            | ((with_reducible apply (wp_region_lit (id:=6)))
               ((with_reducible apply l_move);(focus (first|(simp only [EE];done)|(simp only [EE];exact rfl)|exact rfl));(try simp only [SS,Nat.reduceAdd]))
               ((with_reducible apply l_assign);(focus (first|(simp only [EE];done)|(simp only [EE];exact rfl)|exact rfl));(try simp only [SS,Nat.reduceAdd]))
               ((with_reducible apply l_assign);(focus (first|(simp only [EE];done)|(simp only [EE];exact rfl)|exact rfl));(try simp only [SS,Nat.reduceAdd]))
               (with_reducible apply wpList_nil))
            | ((with_reducible apply (wp_region_lit (id:=7)))
               ((with_reducible apply l_move);(focus (first|(simp only [EE];done)|(simp only [EE];exact rfl)|exact rfl));(try simp only [SS,Nat.reduceAdd]))
               ((with_reducible apply l_assign);(focus (first|(simp only [EE];done)|(simp only [EE];exact rfl)|exact rfl));(try simp only [SS,Nat.reduceAdd]))
               (with_reducible apply wpList_nil))
            | ((fail_if_success (with_reducible apply no_region));(fail_if_success (with_reducible apply no_list));(fail_if_success (with_reducible apply no_oper));(fail_if_success (with_reducible apply no_par));(fail_if_success (with_reducible apply no_loop));go_step))
      all_goals
        have hi5:=(hv5.block (Array.getElem?_eq_some_iff.1 hi2).1).trans hi2
        refine ⟨⟨_,_,_,rfl,rfl,hi5,hx2.trans hv5,?_,?_,?_⟩,by rw [seenIn_eq hi5,seenIn_eq hi];exact hsh⟩
      · rw [if_pos hb] at hB1
        exact hB1
      · exact fun h=>by cases h
      · exact fun _=>hst1 _ (.inl rfl)
      · obtain ⟨hb1,hb2⟩:=hb
        rw [if_neg (by
          rintro (h|h)
          · rw [h] at hb1;cases hb1
          · omega)] at hB1
        exact hB1
      · exact fun h=>by simp [h] at hb
      · exact fun h=>hst1 _ (.inr ⟨rfl,h⟩)
set_option maxHeartbeats 400000
def Ser.d (s:Ser):D:=.agg [.int .i64 s.first,.int .i64 s.last]
def Gp.row (g:Gp):List D := [.int .i64 g.fr,.int .i64 g.tgt]
theorem outside_sem (n a b:Int):Sem Tryd.prog 34 [.int .i64 n,.int .i64 a,.int .i64 b] (.bool (decide (n < a) || decide (b < n))):=by
 refine si [] Tryd.func34 ?_
 repeat'((conv=>whnf);first|(try(first|apply eN);conv=>whnf);apply sD;(focus(try intro hc;have hc0:=hc;(try simp only[SPLT]at hc);try refine and0 ?_);first|exact sideG)|apply rR|apply rE|apply rH| (apply cD<;>intro hb<;>(try simp only[SPLT]at hb)<;>try exact noB))
 all_goals try exact false
 repeat' ((conv=>whnf);first|exact endR|with_reducible first|apply And.intro|apply oR|apply oN|apply dC)
 all_goals (conv=>whnf)
 all_goals (refine rle_bool ?_;simp)
theorem isOf_sem (s:Ser) (n:Int):Sem Tryd.prog 33 [s.d,.int .i64 n] (.bool (!(decide (n < s.first) || decide (s.last < n)))):=by
 refine si [] Tryd.func33 ?_
 repeat'((conv=>whnf);first|(try(first|apply eN|apply eI|apply eC);conv=>whnf);apply sD;(focus first|(refine gx (outside_sem ?_ ?_ ?_)<;>exact pre)|exact side)|apply rR|apply rE|apply rH| (apply cD<;>intro hb<;>(try simp only[SPLT]at hb)<;>try exact noB))
 all_goals try exact false
 exact finR
theorem checkSeries_sem (s:Ser):Sem Tryd.prog 32 [s.d] (.int .i64 (seriesFaultN s)):=by
 have o1:=outside_sem s.first 0 999999999999999
 have o2:=outside_sem s.last (s.first+1) 999999999999999
 have hf:seriesFaultN s=if s.first < 0∨999999999999999 < s.first∨s.last < s.first+1∨999999999999999 < s.last then 1 else 0:=by
  unfold seriesFaultN outB
  simp only [Bool.or_eq_true,decide_eq_true_eq,or_assoc]
 generalize seriesFaultN s=r at hf ⊢
 unfold Ser.d
 refine si [] Tryd.func32 ?_
 repeat'((conv=>whnf);first|(try(first|apply eN|apply eI|apply eC);conv=>whnf);apply sD;(focus(try intro hc;have hc0:=hc;(try simp only[SPLT]at hc);try refine and0 ?_);first|exact gx o1|exact gx o2|(refine gx (outside_sem ?_ ?_ ?_)<;>exact pre)|exact sideG)|apply rR|apply rE|apply rH| (apply cD<;>intro hb<;>(try simp only[SPLT]at hb)<;>try exact noB))
 all_goals try exact false
 all_goals (
  repeat' ((conv=>whnf);first|exact endR|with_reducible first|apply And.intro|apply oR|apply oN|apply dC)
  all_goals (conv=>whnf)
  refine rle_int ?_
  rw [hf]
  split<;>omega)
theorem size_sem (s:Ser) (hok:seriesFaultN s=0):Sem Tryd.prog 60 [s.d] (.int .i64 (sizeN s)):=by
 have hs:=series_ok s hok
 refine si [] Tryd.func60 ?_
 repeat'((conv=>whnf);first|(try(first|apply eN|apply eI);conv=>whnf);apply sD;(focus first|exact side)|apply rR|apply rE|apply rH| (apply cD<;>intro hb<;>(try simp only[SPLT]at hb)<;>try exact noB))
 all_goals try exact false
 exact finR
theorem half_sem (s:Ser) (hok:seriesFaultN s=0):Sem Tryd.prog 62 [s.d] (.int .i64 (sizeN s / 2)):=by
 have hb:=sizeN_bd s hok
 refine si [] Tryd.func62 ?_
 repeat'((conv=>whnf);first|(try(first|apply eN|apply eI|apply eC);conv=>whnf);apply sD;(focus first|(refine gx (size_sem ?_ ?_)<;>exact pre)|exact side)|apply rR|apply rE|apply rH| (apply cD<;>intro hb<;>(try simp only[SPLT]at hb)<;>try exact noB))
 all_goals try exact false
 exact finR
theorem between_sem (s:Ser) (a b:Int) (hok:seriesFaultN s=0) (ha:s.first≤a∧a≤s.last) (hb:s.first≤b∧b≤s.last):Sem Tryd.prog 61 [s.d,.int .i64 a,.int .i64 b] (.int .i64 (stepsN s a b)):=by
 have hs:=series_ok s hok
 have hz:=sizeN_bd s hok
 have hss:sizeN s=s.last - s.first+1:=rfl
 have hst:=between_steps s a b ha hb
 unfold betweenN at hst
 refine si [] Tryd.func61 ?_
 repeat'((conv=>whnf);first|(try(first|apply eN|apply eI|apply eC);conv=>whnf);apply sD;(focus first|(refine gx (size_sem ?_ ?_)<;>exact pre)|exact side)|(first|apply dG|apply kB);kernel_rfl|apply rR|apply rE|apply rH| (apply cD<;>intro hb<;>(try simp only[SPLT]at hb)<;>try exact noB))
 all_goals try exact false
 repeat' ((conv=>whnf);first|exact endR|with_reducible first|apply And.intro|apply oR|apply oN|apply dC)
 all_goals (conv=>whnf)
 exact rle_int hst
theorem numberAt_sem (s:Ser) (pl:Int) (hok:seriesFaultN s=0) (h0:0≤pl) (hm:pl≤4000000000000000000):Sem Tryd.prog 42 [s.d,.int .i64 pl] (.int .i64 (s.first+pl % sizeN s)):=by
 have hs:=series_ok s hok
 have hz:=sizeN_bd s hok
 have hss:sizeN s=s.last - s.first+1:=rfl
 have hm0:=Int.emod_nonneg pl (show sizeN s ≠ 0 by omega)
 have hm1:=Int.emod_lt_of_pos pl (show 0 < sizeN s by omega)
 have hq0:=Int.emod_nonneg (pl % sizeN s+sizeN s) (show sizeN s ≠ 0 by omega)
 have hq1:=Int.emod_lt_of_pos (pl % sizeN s+sizeN s) (show 0 < sizeN s by omega)
 refine si [] Tryd.func42 ?_
 repeat'((conv=>whnf);first|(try(first|apply eN|apply eI|apply eC);conv=>whnf);apply sD;(focus first|(refine gx (size_sem ?_ ?_)<;>exact pre)|exact side)|(first|apply dG|apply kB);kernel_rfl|apply rR|apply rE|apply rH| (apply cD<;>intro hb<;>(try simp only[SPLT]at hb)<;>try exact noB))
 all_goals try exact false
 repeat' ((conv=>whnf);first|exact endR|with_reducible first|apply And.intro|apply oR|apply oN|apply dC)
 all_goals (conv=>whnf)
 refine rle_int ?_
 simp
theorem rows_sem (s:Ser) (a b:Int) (hok:seriesFaultN s=0) (h0:0≤a) (h1:a≤b) (h2:b≤4000000000000000000) (h3:(rowsL s (s.first+a % sizeN s) (b - a)).length≤100000):
  Sem Tryd.prog 27 [s.d,.int .i64 a,.int .i64 b] (.sl 2 2 ((rowsL s (s.first+a % sizeN s) (b - a)).map Gp.row)):=by
 have hs:=series_ok s hok
 have hz:=sizeN_bd s hok
 have hss:sizeN s=s.last - s.first+1:=rfl
 refine si [] Tryd.func27 ?_
 repeat'((conv=>whnf);first|(try(first|apply eN|apply eI|apply eC);conv=>whnf);apply sD;(focus first|(refine gx (numberAt_sem ?_ ?_ ?_ ?_ ?_)<;>exact pre)|exact side)|apply rR|apply rE|apply rH| (apply cD<;>intro hb<;>(try simp only[SPLT]at hb)<;>try exact noB))
 all_goals try exact false
 refine loop_go (M:=fun t=>mem t []) hT hM (fun x:Int × List Gp => [(1,.int .i64 x.1),(7,.sl 2 2 (x.2.map Gp.row))]) (fun x=>a≤x.1∧x.1≤b∧x.2++rowsL s (s.first+x.1 % sizeN s) (b - x.1)=rowsL s (s.first+a % sizeN s) (b - a)) (fun x=>(b - x.1).toNat) ((a,[])) ?_ ?_ ?_
 ·exact finF
 ·exact ⟨by omega,h1,rfl⟩
 ·rintro x ⟨hc1,hc2,hd⟩
  have hm0:=Int.emod_nonneg x.1 (show sizeN s ≠ 0 by omega)
  have hm1:=Int.emod_lt_of_pos x.1 (show 0 < sizeN s by omega)
  have hlen:x.2.length≤100000:=by
   have h4:=congrArg List.length hd
   simp at h4
   omega
  repeat'((conv=>whnf);first|(try(first|apply eN|apply eI|apply eC);conv=>whnf);apply sD;(focus first|(refine gx (numberAt_sem ?_ ?_ ?_ ?_ ?_)<;>exact pre)|exact side)|apply rR|apply rE|apply rH| (apply cD<;>intro hb<;>(try simp only[SPLT]at hb)<;>try exact noB))
  all_goals try exact false
  ·have hst:=rowsL_step s (by omega) x.1 b (by omega) hb
   refine ⟨(x.1+min (b - x.1) (s.last - (s.first+x.1 % sizeN s)+1),x.2 ++ [⟨s.first+x.1 % sizeN s,s.first+x.1 % sizeN s+min (b - x.1) (s.last - (s.first+x.1 % sizeN s)+1) - 1⟩]),⟨by simp only;omega,by simp only;omega,?_⟩,by simp only;omega,?_⟩
   ·simp only
    rw [← hd,hst]
    simp
   ·(conv=>whnf)
    refine ⟨?_,by rfl⟩
    repeat' ((conv=>whnf);first|exact endF|(exact dle_sl (by simp [Gp.row]))|exact endF2|with_reducible apply dC)
  ·repeat' ((conv=>whnf);first|exact endR|with_reducible first|apply And.intro|apply oR|apply oN|apply dC)
   all_goals (conv=>whnf)
   rw [rowsL_nil s _ (b - x.1) (by omega),List.append_nil] at hd
   exact rle_sl (by rw [hd])
set_option maxHeartbeats 4000000
def IS.cells (s:Ser) (hold:Int) (l:List Arr) (t:IS):List D := [.int .i64 s.first,.int .i64 s.last,.int .i64 hold,.sl 0 3 (l.map Arr.row),.int .i64 t.e,.mp (.int .i64) (plV t.held),.mp (.int .i64) (laV t.passed),.sl 2 2 (t.out.map Vd.row),.sl 2 1 (t.passed.map fun y => [.int .i64 y.num])]
theorem place_sem (s:Ser) (hold:Int) (l:List Arr) (e n:Int) (o p:List (List D)) (hok:seriesFaultN s=0) (hn:s.first≤n∧n≤s.last) (h0:0≤e) (h1:e≤3000000000000000000):
  Sem Tryd.prog 45 [.ptr [.int .i64 s.first,.int .i64 s.last,.int .i64 hold,.sl 0 3 (l.map Arr.row),.int .i64 e,.any,.any,.sl 0 2 o,.sl 0 1 p],.int .i64 n] (.int .i64 (placeN s e n)):=by
 have hs:=series_ok s hok
 have hz:=sizeN_bd s hok
 have hss:sizeN s=s.last - s.first+1:=rfl
 have hm0:=Int.emod_nonneg e (show sizeN s ≠ 0 by omega)
 have hm1:=Int.emod_lt_of_pos e (show 0 < sizeN s by omega)
 have c1:=size_sem s hok
 have c2:=half_sem s hok
 have c3:=numberAt_sem s e hok h0 (by omega)
 have c4:=between_sem s (s.first+e % sizeN s) n hok (by omega) hn
 have hst:=steps_bd s (s.first+e % sizeN s) n (by omega) hn
 have he:=place_eq s e n (by omega) hn
 rw [between_steps s _ n (by omega) hn] at he
 rw [he]
 generalize stepsN s (s.first+e % sizeN s) n=k at c4 hst
 unfold Ser.d at c1 c2 c3 c4
 refine si [] Tryd.func45 ?_
 repeat'((conv=>whnf);first|(try(first|apply eN|apply eI|apply eC);conv=>whnf);apply sD;(focus first|exact gx c1|exact gx c2|exact gx c3|exact gx c4|(refine gx (numberAt_sem ?_ ?_ ?_ ?_ ?_)<;>exact pre)|(refine gx (between_sem ?_ ?_ ?_ ?_ ?_ ?_)<;>exact pre)|(refine gx (half_sem ?_ ?_)<;>exact pre)|(refine gx (size_sem ?_ ?_)<;>exact pre)|exact side)|(first|apply dG|apply kB);kernel_rfl|apply rR|apply rE|apply rH| (apply cD<;>intro hb<;>(try simp only[SPLT]at hb)<;>try exact noB))
 all_goals try exact false
 ·repeat' ((conv=>whnf);first|exact endR|with_reducible first|apply And.intro|apply oR|apply oN|apply dC)
  all_goals (conv=>whnf)
  exact rle_int (by rw [if_pos hb])
 ·repeat' ((conv=>whnf);first|exact endR|with_reducible first|apply And.intro|apply oR|apply oN|apply dC)
  all_goals (conv=>whnf)
  exact rle_int (by rw [if_neg (by omega)])
theorem alikeP_sem (s:Ser) (hold:Int) (l:List Arr) (e:Int) (i j:Nat) (a b:Arr) (o p:List (List D)) (hi:l[i]?=some a) (hj:l[j]?=some b):
  Sem Tryd.prog 47 [.ptr [.int .i64 s.first,.int .i64 s.last,.int .i64 hold,.sl 0 3 (l.map Arr.row),.int .i64 e,.any,.any,.sl 0 2 o,.sl 0 1 p],.int .i64 i,.int .i64 j] (.int .i64 (if a.dig=b.dig then 2 else 3)):=by
 have hll:(l.map Arr.row).length=l.length:=List.length_map _
 have hil:=(gLt hi)
 have hjl:=(gLt hj)
 refine si [] Tryd.func47 ?_
 repeat'((conv=>whnf);first|(try(first|apply eN|apply eI);conv=>whnf);apply sD;(focus first|(exact idx_eq (f:=Arr.row) hi rfl)|(exact idx_eq (f:=Arr.row) hj rfl)|exact side)|(first|apply dG|apply kB);kernel_rfl|apply rR|apply rE|apply rH| (apply cD<;>intro hb<;>(try simp only[SPLT]at hb)<;>try exact noB))
 all_goals try exact false
 ·repeat' ((conv=>whnf);first|exact endR|with_reducible first|apply And.intro|apply oR|apply oN|apply dC)
  all_goals (conv=>whnf)
  exact rle_int (by rw [if_pos hb])
 ·repeat' ((conv=>whnf);first|exact endR|with_reducible first|apply And.intro|apply oR|apply oN|apply dC)
  all_goals (conv=>whnf)
  exact rle_int (by rw [if_neg hb])
def idl44_0:List (List Bool) := [[false,false,false,false,false,false,false,false,false,false,false,false,false,false],[true,false,false,false,false,false,false,false,false,false,false,false,false,false],[false,false,false,false,true,false,false,false,false,false,false,false,false,false],[true,true,false,false,false,false,false,false,false,false,false,false,false,false],[true,false,false,false,true,false,false,false,false,false,false,false,false,false],[false,false,false,false,true,true,false,false,false,false,false,false,false,false],[true,true,true,false,false,false,false,false,false,false,false,false,false,false],[true,true,false,false,true,false,false,false,false,false,false,false,false,false],[true,false,false,false,true,true,false,false,false,false,false,false,false,false],[false,false,false,false,true,true,true,false,false,false,false,false,false,false],[true,true,true,true,false,false,false,false,false,false,false,false,false,false],[true,true,true,false,true,false,false,false,false,false,false,false,false,false],[true,true,false,false,true,true,false,false,false,false,false,false,false,false],[true,false,false,false,true,true,true,false,false,false,false,false,false,false],[false,false,false,false,true,true,true,true,false,false,false,false,false,false],[true,true,true,true,true,false,false,false,false,false,false,false,false,false],[true,true,true,false,true,true,false,false,false,false,false,false,false,false],[true,true,false,false,true,true,true,false,false,false,false,false,false,false],[true,false,false,false,true,true,true,true,false,false,false,false,false,false],[true,true,true,true,true,true,false,false,false,false,false,false,false,false],[true,true,true,false,true,true,true,false,false,false,false,false,false,false],[true,true,false,false,true,true,true,true,false,false,false,false,false,false],[true,true,true,true,true,true,true,false,false,false,false,false,false,false],[true,true,true,false,true,true,true,true,false,false,false,false,false,false],[true,true,true,true,true,true,true,true,false,false,false,false,false,false],[true,true,true,true,true,true,true,true,true,false,false,false,false,false],[true,true,true,true,true,true,true,true,true,true,false,false,false,false],[true,true,true,true,true,true,true,true,true,true,true,false,false,false],[true,true,true,true,true,true,true,true,true,true,false,true,false,false],[true,true,true,true,true,true,true,true,true,true,true,true,false,false],[true,true,true,true,true,true,true,true,true,true,true,false,true,false],[true,true,true,true,true,true,true,true,true,true,true,true,true,false],[true,true,true,true,true,true,true,true,true,true,true,true,true,true]]
def idl44_2:List (List Bool) := [[false,false,false,false,false,false,false,false,false],[true,false,false,false,false,false,false,false,false],[false,false,false,false,true,false,false,false,false],[true,true,false,false,false,false,false,false,false],[true,false,false,false,true,false,false,false,false],[false,false,false,false,true,true,false,false,false],[true,true,true,false,false,false,false,false,false],[true,true,false,false,true,false,false,false,false],[true,false,false,false,true,true,false,false,false],[false,false,false,false,true,true,true,false,false],[true,true,true,true,false,false,false,false,false],[true,true,true,false,true,false,false,false,false],[true,true,false,false,true,true,false,false,false],[true,false,false,false,true,true,true,false,false],[false,false,false,false,true,true,true,true,false],[true,true,true,true,true,false,false,false,false],[true,true,true,false,true,true,false,false,false],[true,true,false,false,true,true,true,false,false],[true,false,false,false,true,true,true,true,false],[true,true,true,true,true,true,false,false,false],[true,true,true,false,true,true,true,false,false],[true,true,false,false,true,true,true,true,false],[true,true,true,true,true,true,true,false,false],[true,true,true,false,true,true,true,true,false],[true,true,true,true,true,true,true,true,false],[true,true,true,true,true,true,true,true,true]]
theorem look_sem {P:Program} {f:Nat} {cs:List D} {off:Nat} {es:List (Value × Value)} {d:D} {v:Value} (hen:Enters P f) (hcalm:d.calm=true) (hleft:(D.obj cs).left=true) (hc:cs[off]?=some (.mp (.int .i64) es)) (hd:∀ lim w,Fz lim w v d)
  (h:∀ (w:World) (b0 m clock:Nat) (ents:Array MapEntry),w.cell? ⟨b0,off,none⟩=some (.map (some m))→w.heap[m]?=some (.map ents clock)→ents.toList.map pr=es→Stamped ents clock→Calls P f #[.pointer (some ⟨b0,0,none⟩)] w fun e w'=>e=.returned v∧Ext w w'):
  SemO P f (.obj cs) [] d (some (.obj cs)):=by
 refine ⟨hen,hcalm,fun d' h=>by cases h;exact hleft,fun S w v0 vs hw hr hl _ => ?_⟩
 obtain rfl:vs = []:=List.length_eq_zero_iff.1 hl
 obtain ⟨b,cur,e,rfl,hb,hloc,hh,hsz,h1,ih⟩:=hr.obj_inv
 have hlt:off < cur.size:=by rw [← hsz];exact (gLt hc)
 have hx:cur[off]?=some cur[off]:=Array.getElem?_eq_getElem hlt
 obtain ⟨m,clock,ents,hv,hm,hhm,hp,_⟩:=(ih off _ _ hc hx).mp_inv
 rw [hv] at hx
 refine (h w b m clock ents (by rw [cell_of_row w b _ cur e (0,0) hh];exact hx) hhm hp.1 hp.2).mono fun e w' ⟨he,hext⟩ => ?_
 have hpt:=PT.ext' hw hext
 exact ⟨v,S,he,hpt.wf,hpt.trans,.fz (hd _ _),fun d' hd'=>by cases hd';exact hpt.rep hw hr⟩
theorem oldestO_sem (s:Ser) (hold:Int) (l:List Arr) (t:IS) (h0:∀ y ∈ t.held,0≤y.num):SemO Tryd.prog 43 (.obj (t.cells s hold l)) [] (.tup [.int .i64 (minN t.held),.bool (!t.held.isEmpty)]) (some (.obj (t.cells s hold l))):=
 look_sem (off:=5) (v:=.tuple [.int .i64 (minN t.held),.bool (!t.held.isEmpty)].toArray) inferInstance rfl rfl rfl (fun _ _=>.tup _ rfl fun j d v hd hv=>by
  match j,hd,hv with
  |0,hd,hv=>cases hd;cases hv;exact .int _ _
  |1,hd,hv=>cases hd;cases hv;exact .bool _
  | j+2,hd,hv=>simp at hd) fun w b0 m clock ents h1 h2 h3 h4=>oldest_low t.held w b0 m clock ents h1 h2 h3 h4 h0
theorem lowestO_sem (s:Ser) (hold:Int) (l:List Arr) (t:IS):SemO Tryd.prog 28 (.obj (t.cells s hold l)) [] (.int .i64 (lowS t.held)) (some (.obj (t.cells s hold l))):=
 look_sem (off:=5) (v:=.int .i64 (lowS t.held)) inferInstance rfl rfl rfl (fun _ _=>.int _ _) fun w b0 m clock ents h1 h2 h3 h4=>lowest_low t.held w b0 0 m clock ents h1 h2 h3 h4
theorem vd_set {l:List Vd} {i:Nat} {v u:Vd} (h:l[i]?=some v):(l.map Vd.row).set i u.row=(l.set i u).map Vd.row:=by rw [List.map_set]
theorem setT_at {l:List Vd} {i:Nat} {v:Vd} {time:Int} (h:l[i]?=some v):setT l i time=l.set i ⟨v.kind,time⟩:=by
 unfold setT
 rw [Int.toNat_natCast,h]
theorem setK_at {l:List Vd} {i:Nat} {v:Vd} {kind:Int} (h:l[i]?=some v):setK l i kind=l.set i ⟨kind,v.time⟩:=by
 unfold setK
 rw [Int.toNat_natCast,h]
theorem pass_sem (s:Ser) (hold:Int) (l:List Arr) (t:IS) (i:Nat) (p time:Int) (hi:i < t.out.length) (ho:t.out.length≤100000) (hp:t.passed.length≤100000):
  SemO Tryd.prog 46 (.obj (t.cells s hold l)) [.int .i64 i,.int .i64 p,.int .i64 time] (.tup []) (some (.obj ((t.pass ⟨i,p⟩ time).cells s hold l))):=by
 have hol:(t.out.map Vd.row).length=t.out.length:=List.length_map _
 have hpl:(t.passed.map fun y => [D.int .i64 y.num]).length=t.passed.length:=List.length_map _
 obtain ⟨v,hv⟩:∃ v,t.out[i]?=some v:=⟨_,List.getElem?_eq_getElem hi⟩
 have e1:=setT_at (time:=time) hv
 have e2:=put_laV t.passed ⟨i,p⟩
 have e3:=vd_set (u:=⟨v.kind,time⟩) hv
 unfold IS.cells IS.pass
 dsimp only at e2 ⊢
 rw [e1,← e2,← e3]
 generalize laV t.passed=la
 generalize plV t.held=pl
 obtain ⟨e,hd,pa,out⟩:=t
 dsimp only at *
 refine semO_intro (M:=fun t=>mem t [0,4000000,1000028,1000035,1000043,1000044,1000046]) hT hM Tryd.func46 inferInstance rfl rfl rfl rfl rfl rfl rfl rfl rfl ?_
 repeat'((conv=>whnf);first|(try(first|apply eN|apply eI|apply eC);conv=>whnf);apply sD;(focus first|(exact idx_eq (f:=Vd.row) hv rfl)|exact side)|apply rR|apply rE|apply rH| (apply cD<;>intro hb<;>(try simp only[SPLT]at hb)<;>try exact noB))
 all_goals try exact false
 repeat' ((conv=>whnf);first|exact endR|with_reducible first|apply And.intro|apply oR|apply oN|apply dC)
 all_goals (conv=>whnf)
 ·exact DLe.of_eq (congrArg (D.sl 2 2) rfl)
 ·exact DLe.of_eq (congrArg (D.sl 2 1) (by rw [List.map_append];rfl))
theorem look_pl_none {p:Int} {l:List Sn} (h:findS p l=none):lookD (plV l) (.int .i64 p) (.int .i64 0)=.int .i64 0∧(findV (.int .i64 p) (plV l)).isSome=false:=by
 unfold lookD
 rw [find_plV,h]
 exact ⟨rfl,rfl⟩
theorem look_pl_some {p:Int} {l:List Sn} {y:Sn} (h:findS p l=some y):lookD (plV l) (.int .i64 p) (.int .i64 0)=.int .i64 y.num∧(findV (.int .i64 p) (plV l)).isSome=true:=by
 unfold lookD
 rw [find_plV,h]
 exact ⟨rfl,rfl⟩
theorem look_la_none {p:Int} {l:List Sn} (h:lastS p l=none):lookD (laV l) (.int .i64 p) (.int .i64 0)=.int .i64 0∧(findV (.int .i64 p) (laV l)).isSome=false:=by
 unfold lookD
 rw [find_laV,h]
 exact ⟨rfl,rfl⟩
theorem look_la_some {p:Int} {l:List Sn} {y:Sn} (h:lastS p l=some y):lookD (laV l) (.int .i64 p) (.int .i64 0)=.int .i64 y.num∧(findV (.int .i64 p) (laV l)).isSome=true:=by
 unfold lookD
 rw [find_laV,h]
 exact ⟨rfl,rfl⟩
theorem goOn_sem (s:Ser) (hold:Int) (l:List Arr) (t:IS) (time:Int) {k:Nat} {M:Int} (h:t.Mid k M) (hk:k≤100000) (hMb:M≤4000000000000000000):
  SemO Tryd.prog 44 (.obj (t.cells s hold l)) [.int .i64 time] (.tup []) (some (.obj ((t.follow time).cells s hold l))):=by
 generalize hr:t.follow time=r
 refine semO_intro (M:=fun t=>mem t [0,4000000,5000000,5000002,1000028,1000035,1000043,1000044,1000046]) hT hM Tryd.func44 inferInstance rfl rfl rfl rfl rfl rfl rfl rfl rfl ?_
 repeat'((conv=>whnf);first|((with_reducible apply DrawI.at 7 idl44_0);exact rfl;kernel_rfl)|((with_reducible apply DrawI.at 20 idl44_2);exact rfl;kernel_rfl)|with_reducible apply ExE.go|((with_reducible apply EqF.mk);exact rfl)|with_reducible apply AndI.mk|with_reducible exact trivial|(try(first|apply eN|apply eI|apply eL|apply eC);conv=>whnf);apply sD;(focus first|exact side)|((with_reducible apply CallO.go);(conv=>whnf);(with_reducible apply sD);(focus (first|((apply giveso_go (pass_sem _ _ _ _ _ _ _ _ _ _));(focus (first|exact rfl|(simp;done)));(focus (exact DLes.au));exact rfl;(all_goals (exact pre))))))|(first|apply dG|apply kB);kernel_rfl|apply rR|apply rE|apply rH| (apply cD<;>intro hb<;>(try simp only[SPLT]at hb)<;>try exact noB))
 all_goals try exact false
 refine loop_go (M:=fun t=>mem t [0,4000000,5000000,5000002,1000028,1000035,1000043,1000044,1000046]) hT hM (fun x:IS => [(0,.obj (x.cells s hold l))]) (fun x=>x.Mid k M∧x.follow time=r) (fun x=>x.held.length) (t) ?_ ?_ ?_
 ·exact finF
 ·exact ⟨h,hr⟩
 ·rintro x ⟨hx,hv⟩
  cases hy:findS x.e x.held with
  |none=>
   rw [follow_none hy] at hv
   subst hv
   unfold IS.cells
   repeat'((conv=>whnf);first|((with_reducible apply DrawI.at 7 idl44_0);exact rfl;kernel_rfl)|((with_reducible apply DrawI.at 20 idl44_2);exact rfl;kernel_rfl)|with_reducible apply ExE.go|((with_reducible apply EqF.mk);exact rfl)|with_reducible apply AndI.mk|with_reducible exact trivial|(try(first|apply eN|apply eI|apply eL|apply eC);conv=>whnf);apply sD;(focus first|(exact look_pl_none hy)|exact side)|((with_reducible apply CallO.go);(conv=>whnf);(with_reducible apply sD);(focus (first|((apply giveso_go (pass_sem _ _ _ _ _ _ _ _ _ _));(focus (first|exact rfl|(simp;done)));(focus (exact DLes.au));exact rfl;(all_goals (exact pre))))))|(first|apply dG|apply kB);kernel_rfl|apply rR|apply rE|apply rH| (apply cD<;>intro hb<;>(try simp only[SPLT]at hb)<;>try exact noB))
   all_goals try exact false
   exact finR
  |some y=>
   have h3:=(findS_at hy).2.2
   have hn:=hx.nums y (findS_at hy).2.1
   have hlo:=hx.lo
   have hhi:=hx.hi
   have hfew:=hx.few
   have hout:=hx.out
   obtain ⟨n,hn'⟩:∃ n:Nat,y.num=n:=⟨y.num.toNat,by omega⟩
   have hp:=pass_sem s hold l ⟨x.e,delS x.e x.held,x.passed,x.out⟩ n x.e time (by dsimp only;omega) (by dsimp only;omega) (by dsimp only;omega)
   have hlk:=look_pl_some hy
   have hpl:y.pl=x.e:=(findS_at hy).1
   have hpop:=hx.pop (time:=time) hy
   rw [follow_some hy] at hv
   have ey:y=⟨n,x.e⟩:=by rw [← hn',← hpl]
   rw [hn'] at hlk hpop hv
   rw [ey] at hv hpop
   unfold IS.pass IS.cells at hp
   dsimp only at hp
   rw [← del_plV] at hp
   unfold IS.cells
   repeat'((conv=>whnf);first|((with_reducible apply DrawI.at 7 idl44_0);exact rfl;kernel_rfl)|((with_reducible apply DrawI.at 20 idl44_2);exact rfl;kernel_rfl)|with_reducible apply ExE.go|((with_reducible apply EqF.mk);exact rfl)|with_reducible apply AndI.mk|with_reducible exact trivial|(try(first|apply eN|apply eI|apply eL|apply eC);conv=>whnf);apply sD;(focus first|(exact hlk)|exact side)|((with_reducible apply CallO.go);(conv=>whnf);(with_reducible apply sD);(focus (first|((apply giveso_go (hp));(focus (first|exact rfl|(simp;done)));(focus (exact DLes.au));exact rfl;(all_goals (exact pre))))))|(first|apply dG|apply kB);kernel_rfl|apply rR|apply rE|apply rH| (apply cD<;>intro hb<;>(try simp only[SPLT]at hb)<;>try exact noB))
   all_goals try exact false
   refine ⟨⟨x.e+1,delS x.e x.held,x.passed ++ [⟨n,x.e⟩],setT x.out n time⟩,⟨hpop,hv⟩,by dsimp only;omega,?_⟩
   (conv=>whnf)
   refine ⟨?_,by rfl⟩
   repeat' ((conv=>whnf);first|exact endF|(exact DLe.of_eq (by simp only [del_plV]))|exact endF2|with_reducible apply dC)
theorem minN_head:∀ {y:Sn} {r:List Sn},(y::r).Pairwise (fun a b=>a.num < b.num)→minN (y::r)=y.num
 |y,[],_=>rfl
 |y,z::r,h=>by
  rw [List.pairwise_cons] at h
  rw [minN,minN_head h.2]
  ·have:=h.1 z (by simp)
   omega
  ·simp
theorem release_sem (s:Ser) (hold:Int) (l:List Arr) (t:IS) (time:Int) {k:Nat} {M:Int} (h:t.Ok k M) (hk:k≤l.length) (hl:l.length≤100000) (hMb:M≤4000000000000000000) (hh:0≤hold∧hold≤100000000) (ht:∀ a ∈ l,0≤a.time∧a.time≤1000000000000000):
  SemO Tryd.prog 35 (.obj (t.cells s hold l)) [.int .i64 time] (.tup []) (some (.obj ((t.give l hold time).cells s hold l))):=by
 have hll:(l.map Arr.row).length=l.length:=List.length_map _
 generalize hr:t.give l hold time=r
 refine semO_intro (M:=fun t=>mem t [0,4000000,1000028,1000035,1000043,1000044,1000046]) hT hM Tryd.func35 inferInstance rfl rfl rfl rfl rfl rfl rfl rfl rfl ?_
 repeat'((conv=>whnf);first|((with_reducible apply DrawR.at 35 14);exact rfl;kernel_rfl)|(try(first|apply eN|apply eI|apply eC);conv=>whnf);apply sD;(focus(try intro hc;have hc0:=hc;(try simp only[SPLT]at hc);try refine and0 ?_);first|exact sideG)|((with_reducible apply CallO.go);(conv=>whnf);(with_reducible apply sD);(focus (first|((apply giveso_go (oldestO_sem _ _ _ _ _));(focus (first|exact rfl|(simp;done)));(focus (exact DLes.au));exact rfl;(all_goals (exact pre)))|((apply giveso_go (lowestO_sem _ _ _ _));(focus (first|exact rfl|(simp;done)));(focus (exact DLes.au));exact rfl;(all_goals (exact pre)))|((apply giveso_go (goOn_sem _ _ _ _ _ _ _ _));(focus (first|exact rfl|(simp;done)));(focus (exact DLes.au));exact rfl;(all_goals (exact pre))))))|(first|apply dG|apply kB);kernel_rfl|apply rR|apply rE|apply rH| (apply cD<;>intro hb<;>(try simp only[SPLT]at hb)<;>try exact noB))
 all_goals try exact false
 refine loop_go (M:=fun t=>mem t [0,4000000,1000028,1000035,1000043,1000044,1000046]) hT hM (fun x:IS => [(0,.obj (x.cells s hold l))]) (fun x=>x.Ok k M∧x.give l hold time=r) (fun x=>x.held.length) (t) ?_ ?_ ?_
 ·exact finF
 ·exact ⟨h,hr⟩
 ·rintro x ⟨hx,hv⟩
  have ho:=oldestO_sem s hold l x (fun y hy=>(hx.nums y hy).1)
  cases hheld:x.held with
  |nil=>
   rw [give_nil hheld] at hv
   subst hv
   rw [hheld] at ho
   unfold IS.cells at ho ⊢
   rw [hheld] at ho ⊢
   repeat'((conv=>whnf);first|((with_reducible apply DrawR.at 35 14);exact rfl;kernel_rfl)|(try(first|apply eN|apply eI|apply eC);conv=>whnf);apply sD;(focus(try intro hc;have hc0:=hc;(try simp only[SPLT]at hc);try refine and0 ?_);first|(exact show 0≤_∧_=some [D.int .i64 0,D.int .i64 0,D.str []] from absurd hc0 (by simp))|exact sideG)|((with_reducible apply CallO.go);(conv=>whnf);(with_reducible apply sD);(focus (first|((apply giveso_go (ho));(focus (first|exact rfl|(simp;done)));(focus (exact DLes.au));exact rfl;(all_goals (exact pre))))))|(first|apply dG|apply kB);kernel_rfl|apply rR|apply rE|apply rH| (apply cD<;>intro hb<;>(try simp only[SPLT]at hb)<;>try exact noB))
   all_goals try exact false
   exact finR
  |cons y q=>
   have hn:=hx.nums y (by rw [hheld];simp)
   obtain ⟨n,hn'⟩:∃ n:Nat,y.num=n:=⟨y.num.toNat,by omega⟩
   obtain ⟨a,ha⟩:∃ a,l[n]?=some a:=⟨_,List.getElem?_eq_getElem (by omega)⟩
   have hat:=ht a (gMem ha)
   have htm:tmAt l y.num=a.time:=by unfold tmAt;rw [hn',Int.toNat_natCast,ha]
   have hmin:minN x.held=n:=by
    rw [hheld,minN_head (by rw [← hheld];exact hx.inc),hn']
   rw [hmin] at ho
   have hlo:=lowestO_sem s hold l x
   have hne:x.held ≠ []:=by rw [hheld];simp
   have hg:=goOn_sem s hold l ⟨lowS x.held,x.held,x.passed,x.out⟩ (a.time+hold) (hx.low hne) (by omega) hMb
   have hem:x.held.isEmpty=false:=by rw [hheld];rfl
   rw [hem] at ho
   by_cases hc:time < a.time+hold
   ·rw [give_stop hheld (by rw [htm];exact hc)] at hv
    subst hv
    unfold IS.cells at ho ⊢
    repeat'((conv=>whnf);first|((with_reducible apply DrawR.at 35 14);exact rfl;kernel_rfl)|(try(first|apply eN|apply eI|apply eC);conv=>whnf);apply sD;(focus(try intro hc;have hc0:=hc;(try simp only[SPLT]at hc);try refine and0 ?_);first|(exact idx_eq (f:=Arr.row) ha rfl)|exact sideG)|((with_reducible apply CallO.go);(conv=>whnf);(with_reducible apply sD);(focus (first|((apply giveso_go (ho));(focus (first|exact rfl|(simp;done)));(focus (exact DLes.au));exact rfl;(all_goals (exact pre))))))|(first|apply dG|apply kB);kernel_rfl|apply rR|apply rE|apply rH| (apply cD<;>intro hb<;>(try simp only[SPLT]at hb)<;>try exact noB))
    all_goals try exact false
    exact finR
   ·obtain ⟨g1,g2,g3⟩:=give_go (l:=l) (hold:=hold) (time:=time) hx hheld (by rw [htm];omega)
    rw [g1,htm] at hv
    rw [htm] at g2 g3
    generalize hnx:IS.follow ⟨lowS x.held,x.held,x.passed,x.out⟩ (a.time+hold)=nx at *
    unfold IS.cells at ho hlo hg ⊢
    dsimp only at hg
    repeat'((conv=>whnf);first|((with_reducible apply DrawR.at 35 14);exact rfl;kernel_rfl)|(try(first|apply eN|apply eI|apply eC);conv=>whnf);apply sD;(focus(try intro hc;have hc0:=hc;(try simp only[SPLT]at hc);try refine and0 ?_);first|(exact idx_eq (f:=Arr.row) ha rfl)|exact sideG)|((with_reducible apply CallO.go);(conv=>whnf);(with_reducible apply sD);(focus (first|((apply giveso_go (ho));(focus (first|exact rfl|(simp;done)));(focus (exact DLes.au));exact rfl;(all_goals (exact pre)))|((apply giveso_go (hlo));(focus (first|exact rfl|(simp;done)));(focus (exact DLes.au));exact rfl;(all_goals (exact pre)))|((apply giveso_go (hg));(focus (first|exact rfl|(simp;done)));(focus (exact DLes.au));exact rfl;(all_goals (exact pre))))))|(first|apply dG|apply kB);kernel_rfl|apply rR|apply rE|apply rH| (apply cD<;>intro hb<;>(try simp only[SPLT]at hb)<;>try exact noB))
    all_goals try exact false
    ·exact absurd hb (by simp;omega)
    ·refine ⟨nx,⟨g2,hv⟩,by rw [hheld] at g3;exact g3,?_⟩
     exact finF
theorem digAt_at {l:List Arr} {n:Nat} {b:Arr} (h:l[n]?=some b):digAt l n=b.dig:=by
 unfold digAt
 rw [Int.toNat_natCast,h]
theorem lastS_mem {p:Int}:∀ {l:List Sn} {y:Sn},lastS p l=some y→y ∈ l
 |x::l,y,h=>by
  unfold lastS at h
  split at h
  ·rename_i z hz
   cases h
   exact List.mem_cons_of_mem _ (lastS_mem hz)
  ·split at h
   ·cases h
    exact List.mem_cons_self
   ·cases h
theorem IS.Pre.next {k:Nat} {M:Int} {t:IS} {a:Arr} (h:t.Pre k M) (hM:0≤M):IS.Mid (k+1) (M+1) ⟨t.e+1,t.held,t.passed ++ [⟨k,t.e⟩],setT (setK t.out k 1) k a.time⟩:=by
 have hlo:=h.ok.lo
 have hhi:=h.ok.hi
 refine ⟨h.ok.nums,fun y hy => ?_,h.ok.inc,h.ok.dist,fun y hy=>by have:=h.ok.gt y hy;dsimp only;omega,fun y hy=>by have:=h.ok.le y hy;omega,by dsimp only;omega,?_,?_,by rw [setT_len,setK_len];exact h.ok.out⟩
 ·rcases List.mem_append.1 hy with hy|hy
  ·exact h.ok.pnums y hy
  ·simp only [List.mem_singleton] at hy
   subst hy
   dsimp only
   omega
 ·dsimp only
  omega
 ·have:=h.few
  simp only [List.length_append,List.length_singleton]
  omega
theorem arrive_sem (s:Ser) (hold:Int) (l:List Arr) (t:IS) {k:Nat} {M:Int} {a:Arr} (h:t.Pre k M) (ha:l[k]?=some a) (hok:seriesFaultN s=0) (hin:s.first≤a.num∧a.num≤s.last) (hl:l.length≤1000) (hM0:0≤M) (hMb:M≤2000000000000000000):
  SemO Tryd.prog 36 (.obj (t.cells s hold l)) [.int .i64 k] (.tup []) (some (.obj ((t.take s l k a).cells s hold l))):=by
 have hll:(l.map Arr.row).length=l.length:=List.length_map _
 have hkl:=(gLt ha)
 have hlo:=h.ok.lo
 have hhi:=h.ok.hi
 have hout:=h.ok.out
 have hfew:=h.ok.few
 have hol:(t.out.map Vd.row).length=t.out.length:=List.length_map _
 have c1:=place_sem s hold l t.e a.num (t.out.map Vd.row) (t.passed.map fun y => [D.int .i64 y.num]) hok hin hlo (by omega)
 obtain ⟨v,hv⟩:∃ v,t.out[k]?=some v:=⟨_,List.getElem?_eq_getElem (by omega)⟩
 generalize hr:t.take s l k a=r
 unfold IS.take at hr
 generalize placeN s t.e a.num=p at c1 hr
 have hvr:(t.out.map Vd.row)[k]?=some [.int .i64 v.kind,.int .i64 v.time]:=by rw [List.getElem?_map,hv];rfl
 have hset:∀ q:Int,(t.out.map Vd.row).set k [.int .i64 q,.int .i64 v.time]=(setK t.out k q).map Vd.row:=fun q=>by rw [setK_at hv,← vd_set (u:=⟨q,v.time⟩) hv];rfl
 by_cases hp:p=t.e
 ·have hm:=h.next (a:=a) hM0
  rw [if_pos hp] at hr
  have hps:=pass_sem s hold l ⟨t.e,t.held,t.passed,setK t.out k 1⟩ k p a.time (by rw [setK_len];omega) (by rw [setK_len];omega) (by dsimp only;omega)
  have hg:=goOn_sem s hold l _ a.time hm (by omega) (by omega)
  subst hp
  rw [hr] at hg
  unfold IS.pass IS.cells at hps
  unfold IS.cells at hg ⊢
  dsimp only at hps hg
  generalize setT (setK t.out k 1) k a.time=o2 at hps hg
  rw [← hset] at hps
  refine semO_intro (M:=fun t=>mem t [0,4000000,1000028,1000035,1000036,1000043,1000044,1000046]) hT hM Tryd.func36 inferInstance rfl rfl rfl rfl rfl rfl rfl rfl rfl ?_
  repeat'((conv=>whnf);first|(try(first|apply eN|apply eI|apply eL|apply eC);conv=>whnf);apply sD;(focus first|(exact idx_eq (f:=Arr.row) ha rfl)|(exact idx_eq hvr rfl)|exact gx c1|(refine gx (place_sem ?_ ?_ ?_ ?_ ?_ ?_ ?_ ?_ ?_ ?_ ?_)<;>exact pre)|(refine gx (alikeP_sem ?_ ?_ ?_ ?_ ?_ ?_ ?_ ?_ ?_ ?_ ?_ ?_)<;>exact pre)|exact side)|((with_reducible apply CallO.go);(conv=>whnf);(with_reducible apply sD);(focus (first|((apply giveso_go (hps));(focus (first|exact rfl|(simp;done)));(focus (exact DLes.au));exact rfl;(all_goals (exact pre)))|((apply giveso_go (hg));(focus (first|exact rfl|(simp;done)));(focus (exact DLes.au));exact rfl;(all_goals (exact pre))))))|apply rR|apply rE|apply rH| (apply cD<;>intro hb<;>(try simp only[SPLT]at hb)<;>try exact noB))
  all_goals try exact false
  exact finR
 ·rw [if_neg hp] at hr
  by_cases hlt:t.e < p
  ·rw [if_pos hlt] at hr
   cases hf:findS p t.held with
   |some z=>
    rw [hf] at hr
    dsimp only at hr
    obtain ⟨n0,n1⟩:=h.ok.nums z (findS_at hf).2.1
    obtain ⟨n,hn⟩:∃ n:Nat,z.num=n:=⟨z.num.toNat,by omega⟩
    obtain ⟨b,hb⟩:∃ b,l[n]?=some b:=⟨_,List.getElem?_eq_getElem (by omega)⟩
    have hlk:=look_pl_some hf
    have hal:=alikeP_sem s hold l t.e k n a b (t.out.map Vd.row) (t.passed.map fun y => [D.int .i64 y.num]) ha hb
    have hk:alikeK l a.dig z=if a.dig=b.dig then 2 else 3:=by unfold alikeK;rw [hn,digAt_at hb]
    rw [← hk] at hal
    rw [hn] at hlk
    have hs2:=hset (alikeK l a.dig z)
    generalize setK t.out k (alikeK l a.dig z)=o2 at hr hs2
    generalize alikeK l a.dig z=ak at hal hs2
    subst hr
    unfold IS.cells
    rw [← hs2]
    refine semO_intro (M:=fun t=>mem t [0,4000000,1000028,1000035,1000036,1000043,1000044,1000046]) hT hM Tryd.func36 inferInstance rfl rfl rfl rfl rfl rfl rfl rfl rfl ?_
    repeat'((conv=>whnf);first|(try(first|apply eN|apply eI|apply eL|apply eC);conv=>whnf);apply sD;(focus first|(exact hlk)|(exact idx_eq (f:=Arr.row) ha rfl)|(exact idx_eq hvr rfl)|exact gx c1|exact gx hal|(refine gx (place_sem ?_ ?_ ?_ ?_ ?_ ?_ ?_ ?_ ?_ ?_ ?_)<;>exact pre)|(refine gx (alikeP_sem ?_ ?_ ?_ ?_ ?_ ?_ ?_ ?_ ?_ ?_ ?_ ?_)<;>exact pre)|exact side)|((with_reducible apply CallO.go);(conv=>whnf);(with_reducible apply sD);(focus (first|((apply giveso_go (pass_sem _ _ _ _ _ _ _ _ _ _));(focus (first|exact rfl|(simp;done)));(focus (exact DLes.au));exact rfl;(all_goals (exact pre)))|((apply giveso_go (goOn_sem _ _ _ _ _ _ _ _));(focus (first|exact rfl|(simp;done)));(focus (exact DLes.au));exact rfl;(all_goals (exact pre))))))|apply rR|apply rE|apply rH| (apply cD<;>intro hb<;>(try simp only[SPLT]at hb)<;>try exact noB))
    all_goals try exact false
    repeat' ((conv=>whnf);first|exact endR|with_reducible first|apply And.intro|apply oR|apply oN|apply dC)
    all_goals (conv=>whnf)
    exact DLe.of_eq (congrArg (D.sl 2 2) rfl)
   |none=>
    rw [hf] at hr
    dsimp only at hr
    have hlk:=look_pl_none hf
    have hs2:=hset 4
    have hpl:=put_plV p k hf
    generalize setK t.out k 4=o2 at hr hs2
    subst hr
    unfold IS.cells
    dsimp only
    rw [← hs2,← hpl]
    refine semO_intro (M:=fun t=>mem t [0,4000000,1000028,1000035,1000036,1000043,1000044,1000046]) hT hM Tryd.func36 inferInstance rfl rfl rfl rfl rfl rfl rfl rfl rfl ?_
    repeat'((conv=>whnf);first|(try(first|apply eN|apply eI|apply eL|apply eC);conv=>whnf);apply sD;(focus first|(exact hlk)|(exact idx_eq (f:=Arr.row) ha rfl)|(exact idx_eq hvr rfl)|exact gx c1|(refine gx (place_sem ?_ ?_ ?_ ?_ ?_ ?_ ?_ ?_ ?_ ?_ ?_)<;>exact pre)|(refine gx (alikeP_sem ?_ ?_ ?_ ?_ ?_ ?_ ?_ ?_ ?_ ?_ ?_ ?_)<;>exact pre)|exact side)|((with_reducible apply CallO.go);(conv=>whnf);(with_reducible apply sD);(focus (first|((apply giveso_go (pass_sem _ _ _ _ _ _ _ _ _ _));(focus (first|exact rfl|(simp;done)));(focus (exact DLes.au));exact rfl;(all_goals (exact pre)))|((apply giveso_go (goOn_sem _ _ _ _ _ _ _ _));(focus (first|exact rfl|(simp;done)));(focus (exact DLes.au));exact rfl;(all_goals (exact pre))))))|apply rR|apply rE|apply rH| (apply cD<;>intro hb<;>(try simp only[SPLT]at hb)<;>try exact noB))
    all_goals try exact false
    repeat' ((conv=>whnf);first|exact endR|with_reducible first|apply And.intro|apply oR|apply oN|apply dC)
    all_goals (conv=>whnf)
    exact DLe.of_eq (congrArg (D.sl 2 2) rfl)
  ·rw [if_neg hlt] at hr
   cases hf:lastS p t.passed with
   |some z=>
    rw [hf] at hr
    dsimp only at hr
    obtain ⟨n0,n1⟩:=h.ok.pnums z (lastS_mem hf)
    obtain ⟨n,hn⟩:∃ n:Nat,z.num=n:=⟨z.num.toNat,by omega⟩
    obtain ⟨b,hb⟩:∃ b,l[n]?=some b:=⟨_,List.getElem?_eq_getElem (by omega)⟩
    have hlk:=look_la_some hf
    have hal:=alikeP_sem s hold l t.e k n a b (t.out.map Vd.row) (t.passed.map fun y => [D.int .i64 y.num]) ha hb
    have hk:alikeK l a.dig z=if a.dig=b.dig then 2 else 3:=by unfold alikeK;rw [hn,digAt_at hb]
    rw [← hk] at hal
    rw [hn] at hlk
    have hs2:=hset (alikeK l a.dig z)
    generalize setK t.out k (alikeK l a.dig z)=o2 at hr hs2
    generalize alikeK l a.dig z=ak at hal hs2
    subst hr
    unfold IS.cells
    rw [← hs2]
    refine semO_intro (M:=fun t=>mem t [0,4000000,1000028,1000035,1000036,1000043,1000044,1000046]) hT hM Tryd.func36 inferInstance rfl rfl rfl rfl rfl rfl rfl rfl rfl ?_
    repeat'((conv=>whnf);first|(try(first|apply eN|apply eI|apply eL|apply eC);conv=>whnf);apply sD;(focus first|(exact hlk)|(exact idx_eq (f:=Arr.row) ha rfl)|(exact idx_eq hvr rfl)|exact gx c1|exact gx hal|(refine gx (place_sem ?_ ?_ ?_ ?_ ?_ ?_ ?_ ?_ ?_ ?_ ?_)<;>exact pre)|(refine gx (alikeP_sem ?_ ?_ ?_ ?_ ?_ ?_ ?_ ?_ ?_ ?_ ?_ ?_)<;>exact pre)|exact side)|((with_reducible apply CallO.go);(conv=>whnf);(with_reducible apply sD);(focus (first|((apply giveso_go (pass_sem _ _ _ _ _ _ _ _ _ _));(focus (first|exact rfl|(simp;done)));(focus (exact DLes.au));exact rfl;(all_goals (exact pre)))|((apply giveso_go (goOn_sem _ _ _ _ _ _ _ _));(focus (first|exact rfl|(simp;done)));(focus (exact DLes.au));exact rfl;(all_goals (exact pre))))))|apply rR|apply rE|apply rH| (apply cD<;>intro hb<;>(try simp only[SPLT]at hb)<;>try exact noB))
    all_goals try exact false
    repeat' ((conv=>whnf);first|exact endR|with_reducible first|apply And.intro|apply oR|apply oN|apply dC)
    all_goals (conv=>whnf)
    exact DLe.of_eq (congrArg (D.sl 2 2) rfl)
   |none=>
    rw [hf] at hr
    dsimp only at hr
    have hlk:=look_la_none hf
    have hps:=pass_sem s hold l ⟨t.e,t.held,t.passed,setK t.out k 5⟩ k p a.time (by rw [setK_len];omega) (by rw [setK_len];omega) (by dsimp only;omega)
    subst hr
    unfold IS.pass IS.cells at hps
    unfold IS.cells
    dsimp only at hps ⊢
    generalize setT (setK t.out k 5) k a.time=o2 at hps ⊢
    rw [← hset] at hps
    refine semO_intro (M:=fun t=>mem t [0,4000000,1000028,1000035,1000036,1000043,1000044,1000046]) hT hM Tryd.func36 inferInstance rfl rfl rfl rfl rfl rfl rfl rfl rfl ?_
    repeat'((conv=>whnf);first|(try(first|apply eN|apply eI|apply eL|apply eC);conv=>whnf);apply sD;(focus first|(exact hlk)|(exact idx_eq (f:=Arr.row) ha rfl)|(exact idx_eq hvr rfl)|exact gx c1|(refine gx (place_sem ?_ ?_ ?_ ?_ ?_ ?_ ?_ ?_ ?_ ?_ ?_)<;>exact pre)|(refine gx (alikeP_sem ?_ ?_ ?_ ?_ ?_ ?_ ?_ ?_ ?_ ?_ ?_ ?_)<;>exact pre)|exact side)|((with_reducible apply CallO.go);(conv=>whnf);(with_reducible apply sD);(focus (first|((apply giveso_go (hps));(focus (first|exact rfl|(simp;done)));(focus (exact DLes.au));exact rfl;(all_goals (exact pre))))))|apply rR|apply rE|apply rH| (apply cD<;>intro hb<;>(try simp only[SPLT]at hb)<;>try exact noB))
    all_goals try exact false
    exact finR
set_option maxHeartbeats 1000000
theorem arrs_low:∀ {l:List Arr} {q:Int},arrs (some q) l=0→∀ b ∈ l,q≤b.time
 |c::l,q,h,b,hb=>by
  unfold arrs at h
  split at h
  ·omega
  ·rename_i h1
   have hc:q≤c.time:=by
    unfold arrF at h1
    split at h1
    ·omega
    ·split at h1
     ·omega
     ·dsimp only at h1
      split at h1<;>omega
   rcases List.mem_cons.1 hb with rfl|hb
   ·exact hc
   ·exact Int.le_trans hc (arrs_low h b hb)
theorem arrs_pair:∀ {l:List Arr} {p:Option Int},arrs p l=0→l.Pairwise fun a b=>a.time≤b.time
 |[],_,_=>.nil
 |c::l,p,h=>by
  unfold arrs at h
  split at h
  ·omega
  ·exact .cons (arrs_low h) (arrs_pair h)
theorem arrs_asc {l:List Arr} {p:Option Int} (h:arrs p l=0):Asc l:=fun i j a b hij ha hb=>by
 have hp:=List.pairwise_iff_getElem.1 (arrs_pair h)
 obtain ⟨hi,rfl⟩:=List.getElem?_eq_some_iff.1 ha
 obtain ⟨hj,rfl⟩:=List.getElem?_eq_some_iff.1 hb
 rcases Nat.lt_or_eq_of_le hij with h|h
 ·exact hp i j hi hj h
 ·subst h
  exact Int.le_refl _
def lastT (l:List Arr):Nat→Int
 |0=>0
 |k+1=>((l[k]?).map Arr.time).getD 0
theorem lastT_at {l:List Arr} {k:Nat} {a:Arr} (h:l[k]?=some a):lastT l (k+1)=a.time:=by
 show ((l[k]?).map Arr.time).getD 0=_
 rw [h]
 rfl
theorem lastT_le {l:List Arr} (hasc:Asc l) (htm:∀ a ∈ l,0≤a.time) {k:Nat} {a:Arr} (h:l[k]?=some a):lastT l k≤a.time:=by
 cases k with
 |zero=>exact htm a (gMem h)
 |succ k=>
  have hlt:=(gLt h)
  obtain ⟨b,hb⟩:∃ b,l[k]?=some b:=⟨_,List.getElem?_eq_getElem (by omega)⟩
  rw [lastT_at hb]
  exact hasc k (k+1) b a (by omega) hb h
theorem lastT_nn {l:List Arr} (htm:∀ a ∈ l,0≤a.time) (k:Nat):0≤lastT l k:=by
 cases k with
 |zero=>exact Int.le_refl _
 |succ k=>
  cases hx:l[k]? with
  |some a=>
   rw [lastT_at hx]
   exact htm a (gMem hx)
  |none=>
   show 0≤((l[k]?).map Arr.time).getD 0
   rw [hx]
   exact Int.le_refl _
theorem come_step {s:Ser} {hold:Int} {l:List Arr} (hasc:Asc l) (htm:∀ a ∈ l,0≤a.time) (hh:0≤hold) {k:Nat} {a:Arr} {M:Int} (hM:0≤M) (ha:l[k]?=some a) (hok:(comeN s hold l k).Ok k M) (h1:Inv l hold (lastT l k) k (comeN s hold l k)) (h2:Tm l hold (lastT l k) (comeN s hold l k).held):
  Inv l hold a.time (k+1) (comeN s hold l (k+1))∧Later (preN s hold l k a) (comeN s hold l (k+1))∧Tm l hold a.time (comeN s hold l (k+1)).held:=by
 obtain ⟨p1,p2,p3⟩:=come_pre ha hok
 obtain ⟨g1,g2,g3⟩:=Inv.give (time:=a.time) hasc hh _ rfl hok h1 (lastT_nn htm k) (lastT_le hasc htm ha) h2
 change Inv l hold a.time k (preN s hold l k a) at g1
 change ∀ y ∈ (preN s hold l k a).held,_ at g3
 rw [p1]
 generalize preN s hold l k a=x at *
 have n1:∀ y ∈ x.held,0≤y.num∧y.num < k:=fun y hy=>p2.nums y hy
 have n2:∀ y ∈ x.passed,0≤y.num∧y.num < k:=fun y hy=>p2.pnums y hy
 have i1:Inv l hold a.time k (x.ext [⟨0,-1⟩]):=g1.upd (e':=x.e) n1 n2 fun i i0 i1=>by
  show (x.out ++ [⟨0,-1⟩])[i.toNat]?=x.out[i.toNat]?
  exact List.getElem?_append_left (by rw [p2.out];omega)
 have hv:vdAt (x.ext [⟨0,-1⟩]).out k=some ⟨0,-1⟩:=by
  show (x.out ++ [⟨0,-1⟩])[(k:Int).toNat]?=_
  rw [Int.toNat_natCast,List.getElem?_append_right (by rw [p2.out];exact Nat.le_refl _),p2.out,Nat.sub_self]
  rfl
 obtain ⟨t1,t2,t3⟩:=Inv.take (s:=s) p3 i1 ha hM (htm a (gMem ha)) hh hv (fun y hy=>by
  obtain ⟨b,b1,b2,b3⟩:=g3 y hy
  exact ⟨b,b1,b2,by omega⟩) (p3.next hM)
 exact ⟨t1,(Later.ext p2.toMid).trans t2,t3⟩
theorem comeN_inv {s:Ser} {hold:Int} {l:List Arr} (hz:0 < sizeN s) (hz2:sizeN s≤1000000000000000) (hasc:Asc l) (htm:∀ a ∈ l,0≤a.time) (hh:0≤hold):∀ k,k≤l.length→Inv l hold (lastT l k) k (comeN s hold l k)∧Tm l hold (lastT l k) (comeN s hold l k).held
 |0,_=>⟨⟨fun y hy=>by simp [comeN] at hy,fun y hy=>by simp [comeN] at hy,fun i hi=>by omega,by simp [comeN]⟩,fun y hy=>by simp [comeN] at hy⟩
 |k+1,hk=>by
  obtain ⟨a,ha⟩:∃ a,l[k]?=some a:=⟨_,List.getElem?_eq_getElem (by omega)⟩
  obtain ⟨i1,i2⟩:=comeN_inv (s:=s) hz hz2 hasc htm hh k (by omega)
  obtain ⟨g1,_,g3⟩:=come_step hasc htm hh (by omega) ha (comeN_ok hz hz2 k (by omega)) i1 i2
  rw [lastT_at ha]
  exact ⟨g1,g3⟩
theorem run_inv {s:Ser} {hold:Int} {l:List Arr} (hz:0 < sizeN s) (hz2:sizeN s≤1000000000000000) (hasc:Asc l) (htm:∀ a ∈ l,0≤a.time) (hh:0≤hold) {k:Nat} (hk:k≤l.length) {T:Int} (hT:lastT l k≤T):
  Inv l hold T k ((comeN s hold l k).give l hold T)∧Later (comeN s hold l k) ((comeN s hold l k).give l hold T)∧(∀ y ∈ ((comeN s hold l k).give l hold T).held,∃ a,l[y.num.toNat]?=some a∧a.time≤T∧T < a.time+hold)∧((comeN s hold l k).give l hold T).Ok k (k * 1000000000000002):=by
 obtain ⟨i1,i2⟩:=comeN_inv (s:=s) hz hz2 hasc htm hh k hk
 have hok:=comeN_ok (s:=s) (hold:=hold) (l:=l) hz hz2 k hk
 obtain ⟨g1,g2,g3⟩:=Inv.give (time:=T) hasc hh _ rfl hok i1 (lastT_nn htm k) hT i2
 exact ⟨g1,g2,g3,IS.Ok.give T _ rfl hok⟩
theorem run_later {s:Ser} {hold:Int} {l:List Arr} (hz:0 < sizeN s) (hz2:sizeN s≤1000000000000000) (hasc:Asc l) (htm:∀ a ∈ l,0≤a.time) (hh:0≤hold) {u:Nat} {T:Int} (hT:lastT l u≤T) (hu:∀ j a,u≤j→l[j]?=some a→T≤a.time):∀ (k:Nat),u≤k→k≤l.length→∀ T',T≤T'→lastT l k≤T'→Later ((comeN s hold l u).give l hold T) ((comeN s hold l k).give l hold T')
 |k,huk,hk,T',hTT,hkT=>by
  rcases Nat.lt_or_eq_of_le huk with h|h
  ·obtain ⟨k,rfl⟩:∃ j,k=j+1:=⟨k - 1,by omega⟩
   obtain ⟨a,ha⟩:∃ a,l[k]?=some a:=⟨_,List.getElem?_eq_getElem (by omega)⟩
   have ih:=run_later hz hz2 hasc htm hh hT hu k (by omega) (by omega) a.time (hu k a (by omega) ha) (lastT_le hasc htm ha)
   obtain ⟨i1,i2⟩:=comeN_inv (s:=s) hz hz2 hasc htm hh k (by omega)
   obtain ⟨_,c2,_⟩:=come_step hasc htm hh (by omega) ha (comeN_ok hz hz2 k (by omega)) i1 i2
   exact (ih.trans c2).trans (run_inv hz hz2 hasc htm hh hk hkT).2.1
  ·subst h
   obtain ⟨r1,r2,r3,r4⟩:=run_inv (s:=s) hz hz2 hasc htm hh hk hT
   have hok:=comeN_ok (s:=s) (hold:=hold) (l:=l) hz hz2 u hk
   rw [← give_give hTT _ rfl hok]
   exact (Inv.give hasc hh _ rfl r4 r1 (Int.le_trans (lastT_nn htm u) hT) hTT fun y hy=>by
    obtain ⟨b,b1,b2,b3⟩:=r3 y hy
    exact ⟨b,b1,b2,by omega⟩).2.1
theorem upto_last {l:List Arr} {p:Option Int} (h:arrs p l=0) {time:Int} (h0:0≤time):lastT l (upto time l)≤time:=by
 generalize hu:upto time l=u
 cases u with
 |zero=>exact h0
 |succ k=>
  have:=upto_le time l
  obtain ⟨a,ha⟩:∃ a,l[k]?=some a:=⟨_,List.getElem?_eq_getElem (by omega)⟩
  rw [lastT_at ha]
  exact (upto_at h ha).2 (by omega)
theorem once {s:Ser} {hold:Int} {l:List Arr} (hs:seriesFaultN s=0) (ha:arrs none l=0) (htm:∀ a ∈ l,0≤a.time∧a.time≤1000000000000000) (hh:1≤hold∧hold≤100000000):
  (runN s hold l 3000000000000000).out.length=l.length∧
  (∀ (i:Nat) (v:Vd) (a:Arr),(runN s hold l 3000000000000000).out[i]?=some v→l[i]?=some a→(v.kind=1∨v.kind=5)∧v.time=a.time∨v.kind=4∧a.time≤v.time∧v.time≤a.time+hold∨(v.kind=2∨v.kind=3)∧v.time = -1)∧
  (∀ time later:Int,0≤time→time≤later→∃ m,(runN s hold l later).passed=(runN s hold l time).passed++m)∧
  (∀ time:Int,0≤time→time≤2000000000000000→∀ y ∈ (runN s hold l time).passed,∃ n:Nat,y.num=n∧n < l.length∧∃ v,(runN s hold l 3000000000000000).out[n]?=some v∧0≤v.time∧v.time≤time):=by
 have hz:=sizeN_bd s hs
 have hz0:0 < sizeN s:=by omega
 have hasc:=arrs_asc ha
 have htm0:∀ a ∈ l,0≤a.time:=fun a h=>(htm a h).1
 have hh0:0≤hold:=by omega
 have hlast:∀ k,lastT l k≤1000000000000000:=fun k=>by
  cases k with
  |zero=>show (0:Int)≤1000000000000000;decide
  |succ k=>
   cases hx:l[k]? with
   |some a=>
    rw [lastT_at hx]
    exact (htm a (gMem hx)).2
   |none=>
    show ((l[k]?).map Arr.time).getD 0≤1000000000000000
    rw [hx]
    show (0:Int)≤1000000000000000
    decide
 have hall:∀ (l:List Arr),(∀ a ∈ l,a.time≤3000000000000000)→upto 3000000000000000 l=l.length:=fun l=>by
  induction l with
  |nil=>intro _;rfl
  |cons b l ih=>
   intro h
   rw [upto,if_pos (h b (by simp)),ih fun c hc=>h c (by simp [hc]),List.length_cons]
 have hful:runN s hold l 3000000000000000=(comeN s hold l l.length).give l hold 3000000000000000:=by
  unfold runN
  rw [hall l fun a h=>by have:=(htm a h).2;omega]
 have hlt:=hlast l.length
 obtain ⟨r1,r2,r3,r4⟩:=run_inv (s:=s) (hold:=hold) hz0 hz.2 hasc htm0 hh0 (Nat.le_refl l.length) (T:=3000000000000000) (by omega)
 have hlat:∀ time later:Int,0≤time→time≤later→Later (runN s hold l time) (runN s hold l later):=fun time later h0 h1=>by
  have u1:=upto_last ha h0
  have u2:=upto_last ha (Int.le_trans h0 h1)
  have u3:upto time l≤upto later l:=by
   rcases Nat.lt_or_ge (upto later l) (upto time l) with h|h
   ·exfalso
    have:=upto_le time l
    obtain ⟨a,hx⟩:∃ a,l[upto later l]?=some a:=⟨_,List.getElem?_eq_getElem (by omega)⟩
    have g1:=(upto_at ha hx (time:=time)).2 h
    have g2:=(upto_at ha hx (time:=later)).1 (by omega)
    omega
   ·exact h
  exact run_later hz0 hz.2 hasc htm0 hh0 u1 (fun j a hj hx=>by
   have:=upto_at ha hx (time:=time)
   omega) _ u3 (upto_le later l) later h1 u2
 rw [hful]
 refine ⟨r4.out,fun i v a hv hx => ?_,fun time later h0 h1=>(hlat time later h0 h1).1,fun time h0 h1 y hy => ?_⟩
 ·have hil:=(gLt hx)
  rcases r1.each i hil with ⟨y,hy,he⟩|⟨y,hy,he⟩|⟨u,hu,hk⟩
  ·exfalso
   obtain ⟨b,b1,b2,b3⟩:=r3 y hy
   have:=(htm b (gMem b1)).2
   omega
  ·obtain ⟨u,b,u1,u2,u3,u4,u5⟩:=r1.passed y hy
   rw [he] at u1 u2
   rw [Int.toNat_natCast] at u2
   have e1:v=u:=Option.some.inj (hv.symm.trans (by simpa [vdAt] using u1))
   have e2:a=b:=Option.some.inj (hx.symm.trans u2)
   subst e1 e2
   rcases u5 with h|h
   ·exact .inl h
   ·exact .inr (.inl h)
  ·have e1:v=u:=Option.some.inj (hv.symm.trans (by simpa [vdAt] using hu))
   subst e1
   exact .inr (.inr hk)
 ·have hu:=upto_le time l
  obtain ⟨q1,q2,q3,q4⟩:=run_inv (s:=s) (hold:=hold) hz0 hz.2 hasc htm0 hh0 hu (upto_last ha h0)
  have hb:=q4.pnums y hy
  obtain ⟨v,a,v1,v2,v3,v4,v5⟩:=q1.passed y hy
  refine ⟨y.num.toNat,by omega,by omega,v,?_,v3,v4⟩
  have:=(hlat time 3000000000000000 h0 (by omega)).2 y hy
  rw [hful] at this
  exact this.trans v1
end Go.Proofs.YtalejlbiccdfjaaDoor
