/- Partners and addresses: plain definitions. The table that a Replacer is built to: rules for single operations, and the building. -/
import Derived.Test.YtindehjiaknokaaGreatDoorY6
import Derived.Test.YtindehjiaknokaaGreatDoorY7
import Derived.Tactics
import Derived.Tactics2
import Derived.Defers
import Derived.Laws.Pointers
import Derived.Laws.LoneSync
import Derived.RegionTactic
import Derived.RegionCalls
import Derived.ChangeAlike
namespace Go.Proofs.YtindehjiaknokaaGreatDoor
set_option linter.unusedSimpArgs false
set_option linter.unusedVariables false
open Go.RowKit
structure Adr where
 kind:Str
 id:Str
 deriving DecidableEq
structure Par where
 name:Str
 addrs:List Adr
abbrev Adr.row (a:Adr):List D := [.str a.kind,.str a.id]
abbrev Adr.d (a:Adr):D:=.agg [.str a.kind,.str a.id]
abbrev Adr.key (a:Adr):Value:=.agg [.string ⟨a.kind.toArray⟩,.string ⟨a.id.toArray⟩].toArray
abbrev Par.row (p:Par):List D := [.str p.name,.sl 0 2 (p.addrs.map Adr.row)]
structure Adr.Ok (a:Adr):Prop where
 kind:a.kind.Ok
 id:a.id.Ok
structure Par.Ok (p:Par):Prop where
 name:p.name.Ok
 addrs:∀ a ∈ p.addrs,a.Ok
theorem take_at {α:Type} {l:List α} {k:Nat} {x:α} (h:l[k]?=some x):l.take (k+1)=l.take k ++ [x]:=by
 obtain ⟨hlt,rfl⟩:=List.getElem?_eq_some_iff.1 h
 exact List.take_succ_eq_append_getElem hlt
set_option maxRecDepth 100000
inductive Cond where
 |mk (kind:Int) (kids:List Cond) (path:Str) (vals:List Str) (low high:Int)
mutual
def Cond.row:Cond→List D
 |.mk k ks p vs lo hi => [.int .i64 k,.sl 0 6 (Cond.rows ks),.str p,.sl 0 1 (vs.map fun s => [.str s]),.int .i64 lo,.int .i64 hi]
def Cond.rows:List Cond→List (List D)
 |[] => []
 |c::l=>c.row::Cond.rows l
end
mutual
def Cond.same:Cond→Cond→Bool
 |.mk k ks p vs lo hi,.mk k' ks' p' vs' lo' hi'=>(k == k') && (p == p') && (lo == lo') && (hi == hi') && (vs == vs') && Cond.sames ks ks'
def Cond.sames:List Cond→List Cond→Bool
 |[],[]=>true
 |a::l,b::m=>Cond.same a b && Cond.sames l m
 |[],_::_=>false
 |_::_,[]=>false
end
theorem Cond.rows_map (l:List Cond):Cond.rows l=l.map Cond.row:=by
 induction l with
 |nil=>rw [Cond.rows,List.map_nil]
 |cons c l ih=>rw [Cond.rows,List.map_cons,ih]
theorem Cond.row_mk (k:Int) (ks:List Cond) (p:Str) (vs:List Str) (lo hi:Int):(Cond.mk k ks p vs lo hi).row = [.int .i64 k,.sl 0 6 (ks.map Cond.row),.str p,.sl 0 1 (vs.map fun s => [.str s]),.int .i64 lo,.int .i64 hi]:=by
 rw [Cond.row,Cond.rows_map]
attribute [irreducible] Cond.row
theorem Cond.row_len (c:Cond):c.row.length=6:=by
 obtain ⟨k,ks,p,vs,lo,hi⟩:=c
 rw [Cond.row_mk]
 rfl
theorem Cond.ind {p:Cond→Prop} (h:∀ k ks q vs lo hi,(∀ x ∈ ks,p x)→p (.mk k ks q vs lo hi)) (c:Cond):p c:=
 Cond.rec (motive_1:=p) (motive_2:=fun l=>∀ x ∈ l,p x) (fun k ks q vs lo hi ih=>h k ks q vs lo hi ih) (fun x hx=>by simp at hx) (fun c l h1 h2 x hx=>by
  rcases List.mem_cons.1 hx with rfl|hx
  ·exact h1
  ·exact h2 x hx) c
theorem Cond.same_iff (a:Cond):∀ b:Cond,a.same b=true↔a=b:=by
 induction a using Cond.ind with
 |h k ks q vs lo hi ih=>
  intro b
  obtain ⟨k',ks',q',vs',lo',hi'⟩:=b
  have key:∀ (l m:List Cond),(∀ x ∈ l,∀ b:Cond,x.same b=true↔x=b)→(Cond.sames l m=true↔l=m):=by
   intro l
   induction l with
   |nil=>intro m _;cases m<;>simp [Cond.sames]
   |cons c l ihl=>
    intro m hm
    cases m with
    |nil=>simp [Cond.sames]
    |cons d m=>
     rw [Cond.sames,Bool.and_eq_true,hm c (by simp) d,ihl m fun x hx=>hm x (by simp [hx])]
     simp
  rw [Cond.same]
  simp only [Bool.and_eq_true,beq_iff_eq,key ks ks' ih,Cond.mk.injEq]
  constructor
  ·rintro ⟨⟨⟨⟨⟨rfl,rfl⟩,rfl⟩,rfl⟩,rfl⟩,rfl⟩;exact ⟨rfl,rfl,rfl,rfl,rfl,rfl⟩
  ·rintro ⟨rfl,rfl,rfl,rfl,rfl,rfl⟩;exact ⟨⟨⟨⟨⟨rfl,rfl⟩,rfl⟩,rfl⟩,rfl⟩,rfl⟩
theorem Cond.same_mk {k k':Int} {ks ks':List Cond} {p p':Str} {vs vs':List Str} {lo lo' hi hi':Int}:(Cond.mk k ks p vs lo hi).same (.mk k' ks' p' vs' lo' hi')=true↔k=k'∧ks=ks'∧p=p'∧vs=vs'∧lo=lo'∧hi=hi':=by
 rw [Cond.same_iff,Cond.mk.injEq]
attribute [irreducible] Cond.same
theorem idx_row {l:List Cond} {i:Int} {j:Nat} {k:Int} {ks:List Cond} {p:Str} {vs:List Str} {lo hi:Int} (h:l[j]?=some (.mk k ks p vs lo hi)) (hi':i=j):0≤i∧(l.map Cond.row)[i.toNat]?=some [.int .i64 k,.sl 0 6 (ks.map Cond.row),.str p,.sl 0 1 (vs.map fun s => [.str s]),.int .i64 lo,.int .i64 hi]:=by
 subst hi'
 refine ⟨by omega,?_⟩
 rw [Int.toNat_natCast,List.getElem?_map,h,Option.map_some,Cond.row_mk]
set_option maxHeartbeats 400000
set_option maxHeartbeats 1600000
theorem mark_disable (w:World):(callFunc 170 #[]).run Tryz.prog w=.ok (.value (.tuple #[])) w:=run_call_mark0 Tryz.func170 (by kernel_rfl) (by kernel_rfl) (by kernel_rfl) .disable (by kernel_rfl) w
theorem mark_enable (w:World):(callFunc 172 #[]).run Tryz.prog w=.ok (.value (.tuple #[])) w:=run_call_mark0 Tryz.func172 (by kernel_rfl) (by kernel_rfl) (by kernel_rfl) .enable (by kernel_rfl) w
theorem mark_acquire (a:Addr) (w:World):(callFunc 173 #[.pointer (some a)]).run Tryz.prog w=.ok (.value (.tuple #[])) w:=run_call_marked Tryz.func173 (by kernel_rfl) (by kernel_rfl) (by kernel_rfl) .acquire (by kernel_rfl) a w
theorem mark_release (a:Addr) (w:World):(callFunc 175 #[.pointer (some a)]).run Tryz.prog w=.ok (.value (.tuple #[])) w:=run_call_marked Tryz.func175 (by kernel_rfl) (by kernel_rfl) (by kernel_rfl) .releaseMerge (by kernel_rfl) a w
theorem store_deferred (a:Addr) (x:Value) (u:FrameMode) (w:World) (hc:w.cell? a=some x) (hz:w.frozen? a=false):
  CallsD Tryz.prog 122 #[.pointer (some a),.bool true] u w fun e u' w'=>u'=u∧(e=.returned (.tuple #[])∧w'=w.drew.setCell a (.int .u32 1)):=by
 have hc':w.drew.cell? a=some x:=by go_simp
 have hz':w.drew.frozen? a=false:=by go_simp
 have hst:=run_call_store (P:=Tryz.prog) Tryz.func149 (by kernel_rfl) (by kernel_rfl) (by kernel_rfl) (by kernel_rfl) (k:=.u32) (y:=1) hc' hz'
 go_enter_d Tryz.func122,Tryz.ntmps122
 go_wp2
 go_region_calls
 all_goals (go_end0;exact ⟨rfl,rfl⟩)
theorem unlock_deferred (a:Addr) (u:FrameMode) (w:World) (hc:w.cell? a=some (.int .i32 1)) (hz:w.frozen? a=false):
  CallsD Tryz.prog 121 #[.pointer (some a)] u w fun e u' w'=>u'=u∧(e=.returned (.tuple #[])∧w'=w.setCell a (.int .i32 0)):=by
 have hd:=mark_disable
 have he:=mark_enable
 have hr:=mark_release
 have hadd:=run_call_add (P:=Tryz.prog) Tryz.func176 (by kernel_rfl) (by kernel_rfl) (by kernel_rfl) .i32 (by kernel_rfl) (y := -1) (s:=0) hc hz (by simp [go_sem];rfl)
 have hcv:=run_convert_to_unsafe (P:=Tryz.prog) (src:=199) (dst:=119) Tryz.underlying199 Tryz.underlying119 (by kernel_rfl) hc
 go_enter_d Tryz.func121,Tryz.ntmps121
 go_wp2
 go_end0
 go_wp2
 go_end0
 exact ⟨rfl,rfl⟩
theorem lock_free (a:Addr) (w:World) (hc:w.cell? a=some (.int .i32 0)) (hz:w.frozen? a=false):
  Calls Tryz.prog 120 #[.pointer (some a)] w fun e w'=>e=.returned (.tuple #[])∧w'=w.setCell a (.int .i32 1):=by
 have hd:=mark_disable
 have he:=mark_enable
 have ha:=mark_acquire
 have hcas:=run_call_cas_hit (P:=Tryz.prog) Tryz.func171 (by kernel_rfl) (by kernel_rfl) (by kernel_rfl) .i32 (by kernel_rfl) (y:=1) hc hz
 have hc':(w.setCell a (.int .i32 1)).cell? a=some (.int .i32 1):=World.cell?_setCell_same w a _ hc
 have hcv:=run_convert_to_unsafe (P:=Tryz.prog) (src:=199) (dst:=119) Tryz.underlying199 Tryz.underlying119 (by kernel_rfl) hc'
 go_enter Tryz.func120,Tryz.ntmps120
 go_wp2
 first|go_end0|(simp only [Exit.inBlock,Exit.then];refine bodyPost_ret (results_none rfl _ _ _) rfl ?_)|refine bodyPost_ret (results_none rfl _ _ _) rfl ?_
 go_wp2
 go_end0
 exact ⟨rfl,rfl⟩
def st (s:List UInt8):Value:=.string ⟨s.toArray⟩
def pairs:List (List Value) := [[st [92]],[st [92,92]],[st [34]],[st [92,34]]]
theorem newRep (a:Nat) (w:World) (hr:RowAt w a 0 [st [92],st [92,92],st [34],st [92,34]]):Calls Tryz.prog 46 #[.slice (some ⟨a,0,none⟩) 4 4] w fun e w'=>∃ g v,e=.returned (.pointer (some ⟨g,0,none⟩))∧w.heap.size≤g∧Ext w w'∧Blk w' g 102 #[.int .u32 0,.int .i32 0,.int .u32 0,.nilIface,v]∧SlR w' 1 v pairs:=by
  go_enter Tryz.func46,Tryz.ntmps46
  repeat' (
      first
        |((with_reducible apply wp_seq_k);intro K hK)
        |(simp only [Exit.then,Exit.inBlock,↓reduceIte,Nat.reduceEqDiff])
        |(with_reducible first|apply wp_block|apply wp_skip|apply wp_exit)
        |((with_reducible apply wp_cond_true);exact rfl)
        |((with_reducible apply wp_cond_false);exact rfl)
        |(((with_reducible apply wp_cond_split);exact rfl)<;>intro hb<;>(try simp only [SPLT] at hb)<;>(try (have hbl:=And.left hb;have hbr:=And.right hb))<;>(try (have hbll:=And.left hbl;have hblr:=And.right hbl))<;>(try first|contradiction|exact (bff hb (by assumption)).elim|exact (bft hb (by assumption)).elim|(exfalso;omega)))
        | ((with_reducible apply (wp_region_lit (id:=0)))
           ((apply l_assign);exact evE;(try simp only [SS,Nat.reduceAdd]))
           (apply wpList_nil))
        | ((with_reducible apply (wp_region_lit (id:=1)))
           ((apply l_move);exact evE;(try simp only [SS,Nat.reduceAdd]))
           ((apply l_len_slice);exact rfl;(try simp only [SS,Nat.reduceAdd]))
           ((apply l_rem_nn);exact rfl;exact rfl;(focus (first|assumption|omega));(focus (first|assumption|omega));(try simp only [SS,Nat.reduceAdd]))
           ((apply l_eql);exact rfl;exact rfl;(try simp only [SS,Nat.reduceAdd]))
           (apply wpList_nil))
        | ((fail_if_success with_reducible first|apply no_region|apply no_list|apply no_oper|apply no_par|apply no_loop);go_step))
  with_reducible apply (wp_region_lit (id:=3))
  (apply l_move);exact evE;(try simp only [SS,Nat.reduceAdd])
  refine l_appendC (B:=w.heap.size) (vs := [st [92],st [92,92],st [34],st [92,34]]) rfl (Own.nil _ _ _ _) rfl hr rfl rfl (Nat.le_refl _) (by simp) (by decide) fun v w1 ho hb => ?_
  (try simp only [SS,Nat.reduceAdd])
  have hs:SlR w1 1 v pairs:=ho.slr
  obtain ⟨A,c,rfl,-⟩:=ho.slr
  refine l_build (parts := [(2,.tmp 9)]) (vals := [(2,_)]) (cs := [.int .u32 0,.int .i32 0,.int .u32 0,.nilIface,_]) rfl rfl ?_
  (try simp only [SS,Nat.reduceAdd])
  refine l_boxN rfl fun g w2 hb2 hx2 hg => ?_
  (try simp only [SS,Nat.reduceAdd])
  (apply l_assign);exact evE;(try simp only [SS,Nat.reduceAdd])
  apply wpList_nil
  have h1:Ext w w1:=hb
  repeat' (
      first
        |((with_reducible apply wp_seq_k);intro K hK)
        |(simp only [Exit.then,Exit.inBlock,↓reduceIte,Nat.reduceEqDiff])
        |(with_reducible first|apply wp_block|apply wp_skip|apply wp_exit)
        |((with_reducible apply wp_cond_true);exact rfl)
        |((with_reducible apply wp_cond_false);exact rfl)
        |(((with_reducible apply wp_cond_split);exact rfl)<;>intro hb<;>(try simp only [SPLT] at hb)<;>(try (have hbl:=And.left hb;have hbr:=And.right hb))<;>(try (have hbll:=And.left hbl;have hblr:=And.right hbl))<;>(try first|contradiction|exact (bff hb (by assumption)).elim|exact (bft hb (by assumption)).elim|(exfalso;omega)))
        | ((with_reducible apply (wp_region_lit (id:=0)))
           ((apply l_assign);exact evE;(try simp only [SS,Nat.reduceAdd]))
           (apply wpList_nil))
        | ((with_reducible apply (wp_region_lit (id:=1)))
           ((apply l_move);exact evE;(try simp only [SS,Nat.reduceAdd]))
           ((apply l_len_slice);exact rfl;(try simp only [SS,Nat.reduceAdd]))
           ((apply l_rem_nn);exact rfl;exact rfl;(focus (first|assumption|omega));(focus (first|assumption|omega));(try simp only [SS,Nat.reduceAdd]))
           ((apply l_eql);exact rfl;exact rfl;(try simp only [SS,Nat.reduceAdd]))
           (apply wpList_nil))
        | ((fail_if_success with_reducible first|apply no_region|apply no_list|apply no_oper|apply no_par|apply no_loop);go_step))
  go_ret
  exact ⟨g,_,rfl,by have:=h1.sizeOf;omega,h1.trans hx2,hb2,hs.ext hx2⟩
structure Built (g:Nat) (R:World→Prop) (w:World):Prop where
 c0:w.cell? ⟨g,0,none⟩=some (.int .u32 0)
 c1:w.cell? ⟨g,1,none⟩=some (.int .i32 1)
 z0:w.frozen? ⟨g,0,none⟩=false
 z1:w.frozen? ⟨g,1,none⟩=false
 r:R w
theorem slow_build (g:Nat) (R:World→Prop) (w:World) (h0:w.cell? ⟨g,0,none⟩=some (.int .u32 0)) (h1:w.cell? ⟨g,1,none⟩=some (.int .i32 0)) (f0:w.frozen? ⟨g,0,none⟩=false) (f1:w.frozen? ⟨g,1,none⟩=false)
  (hf:Calls Tryz.prog 76 #[.pointer (some ⟨g,0,none⟩)] (w.setCell ⟨g,1,none⟩ (.int .i32 1)) fun e w'=>e=.returned (.tuple #[])∧Built g R w'):
  Calls Tryz.prog 94 #[.pointer (some ⟨g,0,none⟩),.func (.func 76) #[.pointer (some ⟨g,0,none⟩)] #[]] w fun e w'=>e=.returned (.tuple #[])∧
   ∃ w2,R w2∧w'=(w2.drew.setCell ⟨g,0,none⟩ (.int .u32 1)).setCell ⟨g,1,none⟩ (.int .i32 0):=by
 have hl:=run_call_load (P:=Tryz.prog) Tryz.func119 (by kernel_rfl) (by kernel_rfl) (by kernel_rfl) .u32 (by kernel_rfl) (w:=w.setCell ⟨g,1,none⟩ (.int .i32 1)) (a:=⟨g,0,none⟩) (x:=0) ((World.cell?_setCell_other _ ⟨g,1,none⟩ ⟨g,0,none⟩ _ (by simp)).trans h0)
 have hnot:∀ (x:Bool) (w:World),(Op.unary .not (.bool x)).run Tryz.prog w=.ok (.bool (!x)) w:=fun _ _=>rfl
 go_enter_defers Tryz.func94,Tryz.ntmps94
 go_wp2_with (first|(go_at_call 120;refine (lock_free ⟨g,1,none⟩ _ (by go_simp) (by go_simp)).mono ?_;rintro e w' ⟨rfl,rfl⟩)|(go_at_call 76;refine hf.mono ?_;rintro e w2 ⟨rfl,hb⟩)|(go_at_call 93;go_in))
 refine leaves_cons (f:=122) (args := #[.pointer (some ⟨g,0,none⟩),.bool true]) (by simp) (by simp [go_sem]) ?_
 refine (store_deferred ⟨g,0,none⟩ (.int .u32 0) .returning _ hb.c0 (by simp [hb.z0])).mono ?_
 rintro e u' w'' ⟨rfl,rfl,rfl⟩
 refine leaves_cons (f:=121) (args := #[.pointer (some ⟨g,1,none⟩)]) (by simp [settle]) (by simp [go_sem]) ?_
 refine (unlock_deferred ⟨g,1,none⟩ _ _ ?_ (by simp [hb.z1])).mono ?_
 ·refine (World.cell?_setCell_other _ ⟨g,0,none⟩ ⟨g,1,none⟩ _ (by simp)).trans ?_
  rw [World.cell?_drew]
  exact hb.c1
 rintro e u' w'' ⟨rfl,rfl,rfl⟩
 have hr:∃ w3,R w3∧(w2.drew.setCell ⟨g,0,none⟩ (.int .u32 1)).setCell ⟨g,1,none⟩ (.int .i32 0)=(w3.drew.setCell ⟨g,0,none⟩ (.int .u32 1)).setCell ⟨g,1,none⟩ (.int .i32 0):=⟨w2,hb.r,rfl⟩
 simp [Leaves,settle,results,Tryz.results94]
 exact hr
theorem do_build (g:Nat) (R:World→Prop) (w:World) (h0:w.cell? ⟨g,0,none⟩=some (.int .u32 0)) (h1:w.cell? ⟨g,1,none⟩=some (.int .i32 0)) (f0:w.frozen? ⟨g,0,none⟩=false) (f1:w.frozen? ⟨g,1,none⟩=false)
  (hf:Calls Tryz.prog 76 #[.pointer (some ⟨g,0,none⟩)] (w.setCell ⟨g,1,none⟩ (.int .i32 1)) fun e w'=>e=.returned (.tuple #[])∧Built g R w'):
  Calls Tryz.prog 75 #[.pointer (some ⟨g,0,none⟩),.func (.func 76) #[.pointer (some ⟨g,0,none⟩)] #[]] w fun e w'=>e=.returned (.tuple #[])∧
   ∃ w2,R w2∧w'=(w2.drew.setCell ⟨g,0,none⟩ (.int .u32 1)).setCell ⟨g,1,none⟩ (.int .i32 0):=by
 have hl:=run_call_load (P:=Tryz.prog) Tryz.func119 (by kernel_rfl) (by kernel_rfl) (by kernel_rfl) .u32 (by kernel_rfl) h0
 have hnot:∀ (x:Bool) (w:World),(Op.unary .not (.bool x)).run Tryz.prog w=.ok (.bool (!x)) w:=fun _ _=>rfl
 go_enter Tryz.func75,Tryz.ntmps75
 go_wp2_with (first|(go_at_call 94;refine (slow_build g R _ h0 h1 f0 f1 hf).mono ?_;rintro e w' ⟨rfl,w2,hr,rfl⟩)|(go_at_call 93;go_in))
 go_end0
 exact ⟨rfl,w2,hr,rfl⟩
set_option maxHeartbeats 4000000
section
variable {P:Program} {Q:Exit→Act→World→Prop} {K:Act→World→Prop} {a:Act} {w:World}
 {dst:Option Tmp} {ty:TypeId} {pos:String} {after:Array Edge} {guard:Option (Nat × Bool)} {ops:Array Oper} {rest:List Oper} {ss:List Spec} {fs:List (World→Prop)}
theorem r_indexAddrA {x y:Operand} {t e n len:Nat} [z:TSize P e n] {b p:Nat} {k:IntKind} {j:Int} (ht:P.underlying t=some (.array len e)) (hx:a.eval x=.pointer (some ⟨b,p,none⟩)) (hy:a.eval y=.int k j) (h0:0≤j) (h1:j < len)
  (hk:K (a.put dst (.pointer (some ⟨b,p+j.toNat * n,none⟩))) w):(Oper.mk dst (.indexAddr t x y) ty pos after guard).wp P a w K Q:=by
 refine wp_run ?_ hk
 have e:(⟨b,p,none⟩:Addr).add (j.toNat * n)=⟨b,p+j.toNat * n,none⟩:=by unfold Addr.add;split<;>simp_all
 simp [execOp,hx,hy,Instr.indexAt,Instr.sureAddr,asIntOf,run_underlying ht,h0,h1,run_sizeOf_of z.sz,e]
theorem l_indexAddrA {x y:Operand} {t e n len:Nat} [z:TSize P e n] {b p:Nat} {k:IntKind} {j:Int} (ht:P.underlying t=some (.array len e)) (hx:a.eval x=.pointer (some ⟨b,p,none⟩)) (hy:a.eval y=.int k j) (h0:0≤j) (h1:j < len)
  (hr:wpList P ops Q rest (a.put dst (.pointer (some ⟨b,p+j.toNat * n,none⟩))) w):wpList P ops Q (Oper.mk dst (.indexAddr t x y) ty pos after none::rest) a w:=
 wpList_plain rfl fun K hK=>r_indexAddrA ht hx hy h0 h1 (hK _ _ hr)
theorem p_indexAddrA {x y:Operand} {t e n len:Nat} [z:TSize P e n] {b p:Nat} {k:IntKind} {j:Int} (ht:P.underlying t=some (.array len e)) (hx:a.eval x=.pointer (some ⟨b,p,none⟩)) (hy:a.eval y=.int k j) (h0:0≤j) (h1:j < len)
  (hr:ParSteps P ops Q w rest ss (fs ++ [fun _=>True]) (a.put dst (.pointer (some ⟨b,p+j.toNat * n,none⟩)))):ParSteps P ops Q w (Oper.mk dst (.indexAddr t x y) ty pos after none::rest) (Spec.det (.pointer (some ⟨b,p+j.toNat * n,none⟩))::ss) fs a:=
 par_val rfl (fun w1 hw1 K hK=>r_indexAddrA ht hx hy h0 h1 (hK _ (Ext.refl _))) hr
theorem l_slNil {x:Operand} {t t' e:TypeId} {A:Option Addr} {l c:Nat} (h:P.underlying t=some (.slice e)) (hx:a.eval x=.slice A l c) (hr:wpList P ops Q rest (a.put dst (.bool A.isNone)) w):
  wpList P ops Q (Oper.mk dst (.binOp .eql t x (.const (.slice none 0 0)) t') ty pos after none::rest) a w:=
 wpList_plain rfl fun K hK=>r_same hx rfl rfl (run_slNil h).1 (hK _ _ hr)
theorem l_slSome {x:Operand} {t t' e:TypeId} {A:Option Addr} {l c:Nat} (h:P.underlying t=some (.slice e)) (hx:a.eval x=.slice A l c) (hr:wpList P ops Q rest (a.put dst (.bool (!A.isNone))) w):
  wpList P ops Q (Oper.mk dst (.binOp .neq t x (.const (.slice none 0 0)) t') ty pos after none::rest) a w:=
 wpList_plain rfl fun K hK=>r_differ hx rfl rfl (run_slNil h).2 (hK _ _ hr)
theorem l_makeSlice {t e n by':Nat} {zc:List Value} [ts:TSlice P t e] [te:TElem P e n by' zc] {l c:Operand} {L N:Nat} (hl:a.eval l=.int .i64 L) (hc:a.eval c=.int .i64 N) (h0:L≤N) (h1:N≤1000000000) (hby:by'≤1000)
  (hr:∀ g w' cs,Blk w' g e cs→cs.size=N * n→Ext w w'→g=w.heap.size→wpList P ops Q rest (a.put dst (.slice (some ⟨g,0,none⟩) L N)) w'):wpList P ops Q (Oper.mk dst (.makeSlice t l c) ty pos after none::rest) a w:=by
 obtain ⟨inf,z0,e1,e2,e3,e4,e5,e6⟩:=te.h
 have hmul:(inf.bytes:Int) * (N:Int)≤281474976710656:=by
  have h2':inf.bytes * N≤1000 * 1000000000:=Nat.mul_le_mul (by omega) h1
  have h3:((inf.bytes * N:Nat):Int)≤281474976710656:=by omega
  rwa [Int.natCast_mul] at h3
 have hrun:=run_make (P:=P) w t e inf z0 ts.h e1 e2 .i64 .i64 (L:Int) (N:Int) (by omega) (by omega) hmul (by omega)
 rw [Int.toNat_natCast,Int.toNat_natCast,e3] at hrun
 refine wpList_plain rfl fun K hK => ?_
 unfold Oper.wp
 rw [show (execOp a.eval (Oper.mk dst (.makeSlice t l c) ty pos after none)).run P w=.ok (.value (.slice (some ⟨w.heap.size,0,none⟩) L N)) (w.alloc (.cells (madeCells z0.cells (N * n)) e)) by
  simp only [execOp,hl,hc,Sem.run_bind,hrun,Result.andThen_ok,Sem.run_pure]]
 exact hK _ _ (hr w.heap.size _ _ (Blk.new w e _) (size_madeCells _ _) (Ext.alloc w _) rfl)
theorem l_strBytes {x:Operand} {t t' e:Nat} [TStr P t] [TSlice P t' e] [TInt P e .u8] {s:List UInt8} (hx:a.eval x=.string ⟨s.toArray⟩) (hl:s.length≤1000000000)
  (hr:∀ cap w',Ext w w'→(∃ cur fz,w'.heap[w.heap.size]?=some (.cells cur e fz))→RowAt w' w.heap.size 0 (s.map fun b=>.int .u8 b.toNat)→wpList P ops Q rest (a.put dst (.slice (some ⟨w.heap.size,0,none⟩) s.length cap)) w'):wpList P ops Q (Oper.mk dst (.convert t t' x) ty pos after none::rest) a w:=by
 have hrun:=run_bytes_of_string (P:=P) w t t' e ⟨s.toArray⟩ (TStr.h (P:=P) (t:=t)) (TSlice.h (P:=P) (t:=t') (e:=e)) (TInt.h (P:=P) (t:=e) (k:=.u8))
 have hsz:(ByteArray.mk s.toArray).size=s.length:=by simp [ByteArray.size]
 rw [hsz] at hrun
 generalize grownCap w s.length 0 e=cap at hrun
 generalize hw':(w.drew.alloc (.cells (bytesRow ⟨s.toArray⟩ cap) e ((bytesRow ⟨s.toArray⟩ cap).size,(bytesRow ⟨s.toArray⟩ cap).size+1)))=w' at hrun
 have hx':Ext w w':=hw' ▸ (Ext.drew w).trans (Ext.alloc _ _)
 have hsize:∃ cur fz,w'.heap[w.heap.size]?=some (.cells cur e fz):=by subst hw';exact ⟨_,_,by show (w.heap.push _)[w.heap.size]?=_;rw [Array.getElem?_push,if_pos rfl]⟩
 have hcell:∀ j (hj:j < s.length),w'.cell? ⟨w.heap.size,j,none⟩=some (.int .u8 (s[j].toNat:Int)):=fun j hj=>by
  rw [← hw']
  have h1:=World.cell?_alloc_mark w.drew (bytesRow ⟨s.toArray⟩ cap) e ((bytesRow ⟨s.toArray⟩ cap).size,(bytesRow ⟨s.toArray⟩ cap).size+1) j
  rw [show w.drew.heap.size=w.heap.size from rfl] at h1
  rw [h1]
  have:=bytesRow_at ⟨s.toArray⟩ cap j (by simpa using hj)
  simpa using this
 refine wpList_plain rfl fun K hK => ?_
 unfold Oper.wp
 rw [show (execOp a.eval (Oper.mk dst (.convert t t' x) ty pos after none)).run P w=.ok (.value (.slice (some ⟨w.heap.size,0,none⟩) s.length cap)) w' by
  simp only [execOp,hx,Sem.run_bind,hrun,Sem.run_pure,Result.andThen_ok]]
 refine hK _ _ (hr cap w' hx' hsize fun j v hj => ?_)
 rw [List.getElem?_map] at hj
 cases hb:s[j]? with
 |none=>rw [hb] at hj;cases hj
 |some b=>
  rw [hb] at hj
  cases hj
  obtain ⟨hjl,rfl⟩:=List.getElem?_eq_some_iff.1 hb
  rw [Nat.zero_add]
  exact hcell j hjl
theorem l_bytesStr {x:Operand} {t t' e b o l c:Nat} [TSlice P t e] [TInt P e .u8] [TStr P t'] {s:List UInt8} (hx:a.eval x=.slice (some ⟨b,o,none⟩) l c) (hl:s.length=l) (hc:RowAt w b o (s.map fun b=>.int .u8 b.toNat))
  (hr:wpList P ops Q rest (a.put dst (.string ⟨s.toArray⟩)) w):wpList P ops Q (Oper.mk dst (.convert t t' x) ty pos after none::rest) a w:=by
 subst hl
 have hrun:=run_convert_bytes_back (P:=P) w t t' e ⟨b,o,none⟩ c s (TSlice.h (P:=P) (t:=t) (e:=e)) (TInt.h (P:=P) (t:=e) (k:=.u8)) (TStr.h (P:=P) (t:=t')) (fun j hj=>by
  rw [show (⟨b,o,none⟩:Addr).add j=⟨b,o+j,none⟩ by unfold Addr.add;split<;>simp_all]
  exact hc j _ (by simp [hj]))
 refine wpList_plain rfl fun K hK=>wp_run ?_ (hK _ _ hr)
 simp only [execOp,hx,Sem.run_bind,hrun,Sem.run_pure,Result.andThen_ok]
theorem l_append1G {s x:Operand} {t e bytes B g p c:Nat} {zc:List Value} [i:TSlice P t e] [z:TElem P e 1 bytes zc] {v u:Value} {rows:List (List Value)} (hs:a.eval s=v) (hown:Own w B e 1 v rows)
  (hx:a.eval x=.slice (some ⟨g,p,none⟩) 1 c) (hrow:RowAt w g p [u]) (h1:u.oneCell'=true) (hB:B≤w.heap.size) (hlen:rows.length+1≤1000000000) (hby:bytes≤1000)
  (hr:∀ v' w',Own w' B e 1 v' (rows ++ [[u]])→w.grownBy w' v.ownBlock→wpList P ops Q rest (a.put dst v') w'):wpList P ops Q (Oper.mk dst (.call ⟨.builtin .append,#[s,x],#[t,t]⟩) ty pos after none::rest) a w:=by
 obtain ⟨inf,z0,h1',h2,h3,h4,h5,h6⟩:=z.h
 have hfl:rows.flatten.length=rows.length * 1:=by
  have:∀ (l:List (List Value)),(∀ r ∈ l,r.length=1)→l.flatten.length=l.length:=by
   intro l
   induction l with
   |nil=>intro _;simp
   |cons r l ih=>intro h;simp only [List.flatten_cons,List.length_append,List.length_cons,h r (by simp),ih (fun q hq=>h q (by simp [hq]))];omega
  rw [this rows hown.each,Nat.mul_one]
 have hmul:(rows.length+1) * bytes≤1000000000 * 1000:=Nat.mul_le_mul hlen hby
 refine wpList_plain rfl fun K hK => ?_
 refine wp_append_own w s x t rfl B e inf z0 1 bytes i.h h1' h2 h3 h4 h5 h6 v rows.length rows.flatten hs hown.own ⟨g,p,none⟩ 1 c [u] hx rfl ?_ ?_ ?_ ?_ hB ?_
 ·intro j y hy
  have hadd:(⟨g,p,none⟩:Addr).add j=⟨g,p+j,none⟩:=by unfold Addr.add;split<;>simp_all
  rw [hadd]
  exact hrow j y hy
 ·intro y hy
  rw [List.mem_singleton] at hy
  rw [hy]
  exact h1
 ·unfold maxLen;omega
 ·omega
 ·intro v' w' h7 h8 h9
  refine hK _ _ (hr v' w' ⟨?_,?_⟩ h8)
  ·rw [List.length_append,List.flatten_append]
   exact h7
  ·intro r hr
   rcases List.mem_append.1 hr with hr|hr
   ·exact hown.each r hr
   ·rw [List.mem_singleton] at hr
    rw [hr]
    rfl
end
/-! The table. -/
theorem Own.typed {w:World} {B:Nat} {e:TypeId} {sz:Nat} {v:Value} {rows:List (List Value)} (h:Own w B e sz v rows):v.ownBlock=none∨∃ k cur,v.ownBlock=some k∧w.heap[k]?=some (.cells cur e (0,0)):=by
 obtain ⟨_,h2⟩:=h.own
 rcases h2 with ⟨rfl,_⟩|⟨g,cap,cur,rfl,_,hg,_⟩
 ·exact .inl rfl
 ·exact .inr ⟨g,cur,rfl,hg⟩
def oB (j:Nat):Nat:=if j=0 then 34 else 92
def nB (j:Nat):List UInt8:=if j=0 then [92,34] else [92,92]
def u8s (l:List UInt8):List Value:=l.map fun b=>.int .u8 b.toNat
def nilS:Value:=.slice none 0 0
def tRep:List (List Value) := [[st [34]],[st [92]]]
structure Tc (B b m:Nat) (w:World) (cs:List Value):Prop where
 blk:Blk w b 152 cs.toArray
 len:cs.length=257
 low:B≤b
 done:∀ j,j < m→∃ b1 c1 cur fz,cs[oB j]?=some (.slice (some ⟨b1,0,none⟩) 2 c1)∧B≤b1∧w.heap[b1]?=some (.cells cur 5 fz)∧RowAt w b1 0 (u8s (nB j))
 rest:∀ k,k < 256→(∀ j,j < m→k ≠ oB j)→cs[k]?=some nilS
theorem RowAt.same {w w':World} {b p:Nat} {cs:List Value} (h:RowAt w b p cs) (hb:w'.heap[b]?=w.heap[b]?):RowAt w' b p cs:=fun j u hu=>(World.cell?_of_block (w:=w) (w':=w') (a:=⟨b,p+j,none⟩) hb).trans (h j u hu)
theorem Tc.ext {B b m:Nat} {w w':World} {cs:List Value} (h:Tc B b m w cs) (hx:Ext w w'):Tc B b m w' cs:=by
 refine ⟨h.blk.ext hx,h.len,h.low,fun j hj => ?_,h.rest⟩
 obtain ⟨b1,c1,cur,fz,h1,h2,h3,h4⟩:=h.done j hj
 exact ⟨b1,c1,cur,fz,h1,h2,(Below.block hx b1 (Array.getElem?_eq_some_iff.1 h3).1).trans h3,h4.ext hx⟩
theorem Tc.grown {B b m:Nat} {w w':World} {cs:List Value} (h:Tc B b m w cs) {row:Option Nat} (hg:w.grownBy w' row) (hr:row=none∨∃ k cur,row=some k∧w.heap[k]?=some (.cells cur 9 (0,0))):Tc B b m w' cs:=by
 have key:∀ (k:Nat) (o:Obj),w.heap[k]?=some o→(∀ cur fz,o ≠ .cells cur 9 fz)→w'.heap[k]?=some o:=fun k o ho hn=>by
  refine (hg.block k (Array.getElem?_eq_some_iff.1 ho).1 fun e => ?_).trans ho
  rcases hr with hr|⟨k',cur,hr,hk⟩
  ·rw [hr] at e;cases e
  ·rw [hr] at e
   cases e
   rw [hk] at ho
   cases ho
   exact hn _ _ rfl
 refine ⟨key b _ h.blk (fun cur fz e=>nomatch e),h.len,h.low,fun j hj => ?_,h.rest⟩
 obtain ⟨b1,c1,cur,fz,h1,h2,h3,h4⟩:=h.done j hj
 have h5:=key b1 _ h3 (fun cur fz e=>nomatch e)
 exact ⟨b1,c1,cur,fz,h1,h2,h5,h4.same (h5.trans h3.symm)⟩
theorem grown_setRow {w w':World} {b:Nat} {cur cur':Array Value} {e:TypeId} (h:Writes w w' b cur cur' e):w.grownBy w' (some b):=
 ⟨h.os,h.tape,h.output,Nat.le_of_eq h.size.symm,fun k _ hk=>h.other k fun e=>hk (by rw [e])⟩
theorem Own.keep {w w':World} {B b:Nat} {e e':TypeId} {sz:Nat} {v:Value} {rows:List (List Value)} (h:Own w B e sz v rows) {cur cur':Array Value} (hw:Writes w w' b cur cur' e') (hne:e ≠ e'):Own w' B e sz v rows:=by
 refine ⟨h.own.kept (grown_setRow hw) ?_,h.each⟩
 rcases h.typed with h0|⟨k,c,h0,h1⟩
 ·exact .inl h0
 ·refine .inr fun h2 => ?_
  rw [h0] at h2
  cases h2
  rw [hw.was] at h1
  cases h1
  exact hne rfl
theorem Tc.list {B b m:Nat} {w w':World} {cs:List Value} (h:Tc B b m w cs) {v:Value} (hw:Writes w w' b cs.toArray (cs.set 256 v).toArray 152):Tc B b m w' (cs.set 256 v):=by
 refine ⟨hw.now,by rw [List.length_set];exact h.len,h.low,fun j hj => ?_,fun k hk hj => ?_⟩
 ·obtain ⟨b1,c1,cur,fz,h1,h2,h3,h4⟩:=h.done j hj
  have hne:b1 ≠ b:=fun e=>by
   subst e
   have:=h.blk
   unfold Blk at this
   rw [this] at h3
   cases h3
  refine ⟨b1,c1,cur,fz,?_,h2,(hw.other b1 hne).trans h3,h4.same (hw.other b1 hne)⟩
  rw [List.getElem?_set_ne (by unfold oB;split<;>omega)]
  exact h1
 ·rw [List.getElem?_set_ne (by omega)]
  exact h.rest k hk hj
theorem Tc.next {B b m:Nat} {w w':World} {cs:List Value} (h:Tc B b m w cs) {b1 c1:Nat} (hb1:B≤b1) (hc:∃ cur fz,w.heap[b1]?=some (.cells cur 5 fz)) (hr:RowAt w b1 0 (u8s (nB m))) (hm:∀ j,j < m→oB j ≠ oB m)
  (hw:Writes w w' b cs.toArray (cs.set (oB m) (.slice (some ⟨b1,0,none⟩) 2 c1)).toArray 152):Tc B b (m+1) w' (cs.set (oB m) (.slice (some ⟨b1,0,none⟩) 2 c1)):=by
 have ho:oB m < 256:=by unfold oB;split<;>omega
 have diff:∀ b2 cur fz,w.heap[b2]?=some (.cells cur 5 fz)→b2 ≠ b:=fun b2 cur fz h3 e=>by
  subst e
  have:=h.blk
  unfold Blk at this
  rw [this] at h3
  cases h3
 obtain ⟨cur,fz,hc⟩:=hc
 refine ⟨hw.now,by rw [List.length_set];exact h.len,h.low,fun j hj => ?_,fun k hk hj => ?_⟩
 ·by_cases hjm:j=m
  ·subst hjm
   refine ⟨b1,c1,cur,fz,by rw [List.getElem?_set_self (by rw [h.len];omega)],hb1,(hw.other b1 (diff _ _ _ hc)).trans hc,hr.same (hw.other b1 (diff _ _ _ hc))⟩
  ·obtain ⟨b2,c2,cur,fz,h1,h2,h3,h4⟩:=h.done j (by omega)
   refine ⟨b2,c2,cur,fz,?_,h2,(hw.other b2 (diff _ _ _ h3)).trans h3,h4.same (hw.other b2 (diff _ _ _ h3))⟩
   rw [List.getElem?_set_ne (Ne.symm (hm j (by omega)))]
   exact h1
 ·rw [List.getElem?_set_ne (Ne.symm (hj m (by omega)))]
  exact h.rest k hk fun j hjm=>hj j (by omega)
end Go.Proofs.YtindehjiaknokaaGreatDoor
