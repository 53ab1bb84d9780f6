/- A text in quotes. A text in quotes: Replacer.Replace, Quote. -/
import Derived.Test.YtindehjiaknokaaGreatDoorY31
namespace Go.Proofs.YtindehjiaknokaaGreatDoor
set_option linter.unusedSimpArgs false
set_option linter.unusedVariables false
open Go.RowKit
set_option maxRecDepth 100000
set_option maxHeartbeats 4000000
theorem Own.same {w w':World} {B:Nat} {e:TypeId} {sz:Nat} {v:Value} {rows:List (List Value)} (h:Own w B e sz v rows) (hs:∀ k,B≤k→w'.heap[k]?=w.heap[k]?):Own w' B e sz v rows:=by
 refine ⟨?_,h.each⟩
 obtain ⟨h1,h2⟩:=h.own
 refine ⟨h1,?_⟩
 rcases h2 with h2|⟨g,cap,cur,h2,h3,h4,h5⟩
 ·exact .inl h2
 ·exact .inr ⟨g,cap,cur,h2,h3,(hs g h3).trans h4,h5⟩
theorem TabAt.same {B b:Nat} {w w':World} (h:TabAt B b w) (hs:∀ k,B≤k→w'.heap[k]?=w.heap[k]?):TabAt B b w':=by
 obtain ⟨cs,v,hT,hv,ho⟩:=h
 refine ⟨cs,v,⟨(hs b hT.low).trans hT.blk,hT.len,hT.low,fun j hj => ?_,hT.rest⟩,hv,ho.same hs⟩
 obtain ⟨b1,c1,cur,fz,h1,h2,h3,h4⟩:=hT.done j hj
 exact ⟨b1,c1,cur,fz,h1,h2,(hs b1 h2).trans h3,h4.same (hs b1 h2)⟩
theorem once_at (g bo o c:Nat) (w:World) (hb:Blk w g 102 #[.int .u32 0,.int .i32 1,.int .u32 0,.nilIface,.slice (some ⟨bo,o,none⟩) 4 c]) (hr:RowAt w bo o [st [92],st [92,92],st [34],st [92,34]]):
  Calls Tryz.prog 76 #[.pointer (some ⟨g,0,none⟩)] w fun e w'=>e=.returned (.tuple #[])∧∃ b,Blk w' g 102 #[.int .u32 0,.int .i32 1,.int .u32 0,(.iface 153 (.pointer (some ⟨b,0,none⟩))),.slice none 0 0]∧TabAt w.heap.size b w'∧Bel g w w':=by
 have hg:=hb.lt
 go_enter Tryz.func76,Tryz.ntmps76
 repeat' (
   first
    |((with_reducible apply wp_seq_k);intro K hK)
    |(simp only [Exit.then,Exit.inBlock,↓reduceIte,Nat.reduceEqDiff])
    |(with_reducible first|apply wp_block|apply wp_skip|apply wp_exit)
    |((with_reducible apply wp_cond_true);exact rfl)
    |((with_reducible apply wp_cond_false);exact rfl)
    |(((with_reducible apply wp_cond_split);exact rfl)<;>intro hb<;>(try simp only [SPLT] at hb)<;>(try (have hbl:=And.left hb;have hbr:=And.right hb))<;>(try (have hbll:=And.left hbl;have hblr:=And.right hbl))<;>(try first|contradiction|exact (bff hb (by assumption)).elim|exact (bft hb (by assumption)).elim|(exfalso;omega)))
    | ((fail_if_success with_reducible first|apply no_region|apply no_list|apply no_oper|apply no_par|apply no_loop);go_step))
 with_reducible apply (wp_region_lit (id:=0))
 (apply l_move);exact evE;(try simp only [SS,Nat.reduceAdd])
 (apply l_move);exact evE;(try simp only [SS,Nat.reduceAdd])
 refine l_enter (al := [.pointer (some ⟨g,0,none⟩)]) rfl ?_
 refine (build_at g bo o c w (hb.cell 4) hr).mono fun e w2 ⟨b,he,hx,hT⟩ => ?_
 subst he
 (try simp only [SS,Nat.reduceAdd])
 (apply l_nilCheck);exact rfl;(try simp only [SS,Nat.reduceAdd])
 (apply l_fieldAddr);exact rfl;(try simp only [SS,Nat.reduceAdd])
 have hb2:=hb.ext hx
 refine wpList_plain rfl fun K1 hK1=>r_store (n:=1) (o:=3) (by kernel_rfl) rfl (us := [(.iface 153 (.pointer (some ⟨b,0,none⟩)))]) rfl rfl (by simp [Value.oneCell']) hb2 (by simp) (hK1 _ _ ?_)
 have wr3:=Writes.row hb2 #[.int .u32 0,.int .i32 1,.int .u32 0,(.iface 153 (.pointer (some ⟨b,0,none⟩))),.slice (some ⟨bo,o,none⟩) 4 c] rfl
 change wpList _ _ _ _ _ (w2.setRow g #[.int .u32 0,.int .i32 1,.int .u32 0,(.iface 153 (.pointer (some ⟨b,0,none⟩))),.slice (some ⟨bo,o,none⟩) 4 c])
 generalize w2.setRow g #[.int .u32 0,.int .i32 1,.int .u32 0,(.iface 153 (.pointer (some ⟨b,0,none⟩))),.slice (some ⟨bo,o,none⟩) 4 c]=w3 at wr3 ⊢
 apply wpList_nil
 repeat' (
   first
    |((with_reducible apply wp_seq_k);intro K hK)
    |(simp only [Exit.then,Exit.inBlock,↓reduceIte,Nat.reduceEqDiff])
    |(with_reducible first|apply wp_block|apply wp_skip|apply wp_exit)
    |((with_reducible apply wp_cond_true);exact rfl)
    |((with_reducible apply wp_cond_false);exact rfl)
    |(((with_reducible apply wp_cond_split);exact rfl)<;>intro hb<;>(try simp only [SPLT] at hb)<;>(try (have hbl:=And.left hb;have hbr:=And.right hb))<;>(try (have hbll:=And.left hbl;have hblr:=And.right hbl))<;>(try first|contradiction|exact (bff hb (by assumption)).elim|exact (bft hb (by assumption)).elim|(exfalso;omega)))
    | ((fail_if_success with_reducible first|apply no_region|apply no_list|apply no_oper|apply no_par|apply no_loop);go_step))
 with_reducible apply (wp_region_lit (id:=1))
 (apply l_move);exact evE;(try simp only [SS,Nat.reduceAdd])
 (apply l_nilCheck);exact rfl;(try simp only [SS,Nat.reduceAdd])
 (apply l_fieldAddr);exact rfl;(try simp only [SS,Nat.reduceAdd])
 refine wpList_plain rfl fun K1 hK1=>r_store (n:=1) (o:=4) (by kernel_rfl) rfl (us := [.slice none 0 0]) rfl rfl (by simp [Value.oneCell']) wr3.now (by simp) (hK1 _ _ ?_)
 have wr4:=Writes.row wr3.now #[.int .u32 0,.int .i32 1,.int .u32 0,(.iface 153 (.pointer (some ⟨b,0,none⟩))),.slice none 0 0] rfl
 change wpList _ _ _ _ _ (w3.setRow g #[.int .u32 0,.int .i32 1,.int .u32 0,(.iface 153 (.pointer (some ⟨b,0,none⟩))),.slice none 0 0])
 generalize w3.setRow g #[.int .u32 0,.int .i32 1,.int .u32 0,(.iface 153 (.pointer (some ⟨b,0,none⟩))),.slice none 0 0]=w4 at wr4 ⊢
 apply wpList_nil
 repeat' (
   first
    |((with_reducible apply wp_seq_k);intro K hK)
    |(simp only [Exit.then,Exit.inBlock,↓reduceIte,Nat.reduceEqDiff])
    |(with_reducible first|apply wp_block|apply wp_skip|apply wp_exit)
    |((with_reducible apply wp_cond_true);exact rfl)
    |((with_reducible apply wp_cond_false);exact rfl)
    |(((with_reducible apply wp_cond_split);exact rfl)<;>intro hb<;>(try simp only [SPLT] at hb)<;>(try (have hbl:=And.left hb;have hbr:=And.right hb))<;>(try (have hbll:=And.left hbl;have hblr:=And.right hbl))<;>(try first|contradiction|exact (bff hb (by assumption)).elim|exact (bft hb (by assumption)).elim|(exfalso;omega)))
    | ((fail_if_success with_reducible first|apply no_region|apply no_list|apply no_oper|apply no_par|apply no_loop);go_step))
 go_end0
 refine ⟨rfl,b,wr4.now,hT.same fun k hk=>(wr4.other k (by omega)).trans (wr3.other k (by omega)),?_⟩
 exact (Bel.of hx).trans ⟨wr4.os.trans wr3.os,wr4.tape.trans wr3.tape,wr4.output.trans wr3.output,by rw [wr4.size,wr3.size];exact Nat.le_refl _,fun k _ hk=>(wr4.other k hk).trans (wr3.other k hk)⟩
section
variable {P:Program} {Q:Exit→Act→World→Prop} {K:Act→World→Prop} {a:Act} {w:World}
 {dst:Option Tmp} {ty:TypeId} {pos:String} {after:Array Edge} {guard:Option (Nat × Bool)} {ops:Array Oper} {rest:List Oper}
theorem run_callMethod {f:FuncId} [e:Enters P f] {t:TypeId} {v:Value} {name:String} {args:Array Value} {el:TypeId} (hu:P.underlying t=some (.pointer el)) (hm:(P.info? t).map (fun i=>(i.methods.find? (·.name == name)).map fun m=>(m.path.toList,m.func))=some (some ([],some (f,true)))):
  (callMethod (.iface t v) name args).run P w=.ok (.enter f (#[v]++args)) w:=by
 cases hi:P.info? t with
 |none=>rw [hi] at hm;cases hm
 |some i=>
  rw [hi,Option.map_some,Option.some.injEq] at hm
  cases hf:i.methods.find? (·.name == name) with
  |none=>rw [hf] at hm;cases hm
  |some m=>
   rw [hf,Option.map_some,Option.some.injEq,Prod.mk.injEq] at hm
   obtain ⟨n,hn⟩:∃ n,P.types.size+Made.depth=n+1:=⟨P.types.size+(Made.depth - 1),by unfold Made.depth;omega⟩
   simp [callMethod,hn,Go.method,typeInfo,hi,hf,hm.1,hm.2,Go.follow,receiverAt,run_underlying hu,Place.get,run_callFunc]
theorem l_invoke {f:FuncId} [e:Enters P f] {t el:TypeId} {v:Value} {name:String} {x:Operand} {xl:List Operand} {al:List Value} {ts:Array TypeId} (hu:P.underlying t=some (.pointer el)) (hm:(P.info? t).map (fun i=>(i.methods.find? (·.name == name)).map fun m=>(m.path.toList,m.func))=some (some ([],some (f,true))))
  (hx:a.eval x=.iface t v) (hl:xl.map a.eval=al) (hc:Calls P f (v::al).toArray w (fun e w'=>match e with | .returned u=>wpList P ops Q rest (a.put dst u) w' | .panicked ch=>Q (.panic ch) a w' | .outgrown=>LetsOut Q)):
  wpList P ops Q (Oper.mk dst (.call ⟨.invoke x name,xl.toArray,ts⟩) ty pos after none::rest) a w:=by
 refine wpList_plain rfl fun K hK => ?_
 have he:(execOp a.eval (Oper.mk dst (.call ⟨.invoke x name,xl.toArray,ts⟩) ty pos after none)).run P w=.ok (.enter f (v::al).toArray) w:=by
  have h:=run_callMethod (w:=w) (v:=v) (args:=al.toArray) (f:=f) hu hm
  have e1:(#[Value.iface t v]++xl.toArray.map a.eval).extract 1 (#[Value.iface t v]++xl.toArray.map a.eval).size=al.toArray:=by
   rw [← hl]
   apply Array.ext'
   simp
   exact List.take_of_length_le (by simp)
  have e2:(#[Value.iface t v]++xl.toArray.map a.eval)[0]?=some (Value.iface t v):=by simp
  simp only [execOp,resolve,Sem.run_bind,Sem.run_pure,Result.andThen_ok,hx,invoke,e2,e1,h]
  simp
 unfold Oper.wp
 rw [he]
 refine Calls.mono hc fun en w' hr => ?_
 cases en with
 |returned u=>exact hK _ _ hr
 |panicked ch=>exact hr
 |outgrown=>exact hr
end
def repV (b:Nat):Array Value := #[.int .u32 0,.int .i32 1,.int .u32 0,(.iface 153 (.pointer (some ⟨b,0,none⟩))),.slice none 0 0]
theorem do_at (g bo o c:Nat) (w:World) (hb:Blk w g 102 #[.int .u32 0,.int .i32 0,.int .u32 0,.nilIface,.slice (some ⟨bo,o,none⟩) 4 c]) (hr:RowAt w bo o [st [92],st [92,92],st [34],st [92,34]]):
  Calls Tryz.prog 75 #[.pointer (some ⟨g,0,none⟩),.func (.func 76) #[.pointer (some ⟨g,0,none⟩)] #[]] w fun e w'=>e=.returned (.tuple #[])∧∃ b,w'.cell? ⟨g,3,none⟩=some (.iface 153 (.pointer (some ⟨b,0,none⟩)))∧TabAt w.heap.size b w'∧Bel g w w':=by
 have hg:=hb.lt
 have hne:bo ≠ g:=fun e=>by
  subst e
  have h:=hr 0 _ rfl
  rw [hb.cell] at h
  match o,h with
  |0,h=>cases h
  |1,h=>cases h
  |2,h=>cases h
  |3,h=>cases h
  |4,h=>cases h
  |o+5,h=>cases h
 have hb1:Blk (w.setCell ⟨g,1,none⟩ (.int .i32 1)) g 102 #[.int .u32 0,.int .i32 1,.int .u32 0,.nilIface,.slice (some ⟨bo,o,none⟩) 4 c]:=hb.setCell 1 _
 have hx1:=Bel.setCell (g:=g) (i:=1) w (.int .i32 1)
 have hr1:RowAt (w.setCell ⟨g,1,none⟩ (.int .i32 1)) bo o [st [92],st [92,92],st [34],st [92,34]]:=fun j u hu=>hx1.cell hne (hr j u hu)
 refine (do_build g (fun w2=>∃ b,Blk w2 g 102 (repV b)∧TabAt w.heap.size b w2∧Bel g w w2) w (hb.cell 0) (hb.cell 1) (hb.frozen 0) (hb.frozen 1) ?_).mono fun e w' ⟨he,w2,⟨b,k1,k2,k3⟩,hw⟩ => ?_
 ·refine (once_at g bo o c _ hb1 hr1).mono fun e w' ⟨he,b,k1,k2,k3⟩=>⟨he,⟨k1.cell 0,k1.cell 1,k1.frozen 0,k1.frozen 1,b,k1,?_,hx1.trans k3⟩⟩
  have hsz:(w.setCell ⟨g,1,none⟩ (.int .i32 1)).heap.size=w.heap.size:=by simp [World.setCell]
  rwa [hsz] at k2
 ·have h1:Blk w2.drew g 102 (repV b):=k1
  have h2:=h1.setCell 0 (.int .u32 1)
  have h3:=h2.setCell 1 (.int .i32 0)
  have hb2:Bel g w2 ((w2.drew.setCell ⟨g,0,none⟩ (.int .u32 1)).setCell ⟨g,1,none⟩ (.int .i32 0)):=((Bel.of (Ext.drew w2)).trans (Bel.setCell _ _)).trans (Bel.setCell _ _)
  subst hw
  refine ⟨he,b,h3.cell 3,k2.same fun k hk => ?_,k3.trans hb2⟩
  by_cases hk2:k < w2.heap.size
  ·exact hb2.block k hk2 (by omega)
  ·have hs:((w2.drew.setCell ⟨g,0,none⟩ (.int .u32 1)).setCell ⟨g,1,none⟩ (.int .i32 0)).heap.size=w2.heap.size:=by
    have hd:w2.drew.heap=w2.heap:=rfl
    simp [World.setCell,hd]
   rw [Array.getElem?_eq_none (by omega),Array.getElem?_eq_none (by omega)]
theorem rep_at (g bo o c:Nat) (s:Str) (hs:s.length≤100000000) (w:World) (hb:Blk w g 102 #[.int .u32 0,.int .i32 0,.int .u32 0,.nilIface,.slice (some ⟨bo,o,none⟩) 4 c]) (hr:RowAt w bo o [st [92],st [92,92],st [34],st [92,34]]):
    Calls Tryz.prog 47 #[.pointer (some ⟨g,0,none⟩),.string ⟨s.toArray⟩] w fun e w'=>e=.returned (.string ⟨(escS s).toArray⟩)∧Bel g w w':=by
  go_enter Tryz.func47,Tryz.ntmps47
  repeat' (
      first
        |((with_reducible apply wp_seq_k);intro K hK)
        |(simp only [Exit.then,Exit.inBlock,↓reduceIte,Nat.reduceEqDiff])
        |(with_reducible first|apply wp_block|apply wp_skip|apply wp_exit)
        |((with_reducible apply wp_cond_true);exact rfl)
        |((with_reducible apply wp_cond_false);exact rfl)
        |(((with_reducible apply wp_cond_split);exact rfl)<;>intro hb<;>(try simp only [SPLT] at hb)<;>(try (have hbl:=And.left hb;have hbr:=And.right hb))<;>(try (have hbll:=And.left hbl;have hblr:=And.right hbl))<;>(try first|contradiction|exact (bff hb (by assumption)).elim|exact (bft hb (by assumption)).elim|(exfalso;omega)))
        | ((with_reducible apply (wp_region_lit (id:=0)))
           ((apply l_assign);exact evE;(try simp only [SS,Nat.reduceAdd]))
           (apply wpList_nil))
        | ((fail_if_success with_reducible first|apply no_region|apply no_list|apply no_oper|apply no_par|apply no_loop);go_step))
  with_reducible apply (wp_region_lit (id:=1))
  (apply l_move);exact evE;(try simp only [SS,Nat.reduceAdd])
  (apply l_nilCheck);exact rfl;(try simp only [SS,Nat.reduceAdd])
  (apply l_fieldAddr);exact rfl;(try simp only [SS,Nat.reduceAdd])
  (apply l_move);exact evE;(try simp only [SS,Nat.reduceAdd])
  refine wpList_plain rfl fun K1 hK1=>wp_run (v:=.func (.func 76) #[.pointer (some ⟨g,0,none⟩)] #[]) (by
    have hmf:∀ (fn:Fn) (first cap:Array Value) (w:World),(Instr.makeFunc fn first cap).run Tryz.prog w=.ok (.func fn first cap) w:=fun _ _ _ _=>rfl
    simp only [execOp,Sem.run_bind,hmf,Result.andThen_ok,Sem.run_pure,List.map_toArray,List.map_cons,List.map_nil]
    rfl) (hK1 _ _ ?_)
  (try simp only [SS,Nat.reduceAdd])
  refine l_enter (al := [.pointer (some ⟨g,0,none⟩),.func (.func 76) #[.pointer (some ⟨g,0,none⟩)] #[]]) rfl ?_
  refine (do_at g bo o c w hb hr).mono fun e w2 ⟨he,b,hc,hT,hB⟩ => ?_
  subst he
  (try simp only [SS,Nat.reduceAdd])
  apply wpList_nil
  repeat' (
      first
        |((with_reducible apply wp_seq_k);intro K hK)
        |(simp only [Exit.then,Exit.inBlock,↓reduceIte,Nat.reduceEqDiff])
        |(with_reducible first|apply wp_block|apply wp_skip|apply wp_exit)
        |((with_reducible apply wp_cond_true);exact rfl)
        |((with_reducible apply wp_cond_false);exact rfl)
        |(((with_reducible apply wp_cond_split);exact rfl)<;>intro hb<;>(try simp only [SPLT] at hb)<;>(try (have hbl:=And.left hb;have hbr:=And.right hb))<;>(try (have hbll:=And.left hbl;have hblr:=And.right hbl))<;>(try first|contradiction|exact (bff hb (by assumption)).elim|exact (bft hb (by assumption)).elim|(exfalso;omega)))
        | ((with_reducible apply (wp_region_lit (id:=0)))
           ((apply l_assign);exact evE;(try simp only [SS,Nat.reduceAdd]))
           (apply wpList_nil))
        | ((fail_if_success with_reducible first|apply no_region|apply no_list|apply no_oper|apply no_par|apply no_loop);go_step))
  with_reducible apply (wp_region_lit (id:=2))
  (apply l_move);exact evE;(try simp only [SS,Nat.reduceAdd])
  (apply l_nilCheck);exact rfl;(try simp only [SS,Nat.reduceAdd])
  (apply l_fieldAddr);exact rfl;(try simp only [SS,Nat.reduceAdd])
  (apply l_load1);exact rfl;exact hc;(try simp only [SS,Nat.reduceAdd])
  (apply l_move);exact evE;(try simp only [SS,Nat.reduceAdd])
  refine l_invoke (f:=217) (al := [.string ⟨s.toArray⟩]) Tryz.underlying153 (by kernel_rfl) rfl rfl ?_
  refine (replace_at b s hs w2 hT.read).mono fun e w3 ⟨he,hx⟩ => ?_
  subst he
  (try simp only [SS,Nat.reduceAdd])
  (apply l_assign);exact evE;(try simp only [SS,Nat.reduceAdd])
  apply wpList_nil
  repeat' (
      first
        |((with_reducible apply wp_seq_k);intro K hK)
        |(simp only [Exit.then,Exit.inBlock,↓reduceIte,Nat.reduceEqDiff])
        |(with_reducible first|apply wp_block|apply wp_skip|apply wp_exit)
        |((with_reducible apply wp_cond_true);exact rfl)
        |((with_reducible apply wp_cond_false);exact rfl)
        |(((with_reducible apply wp_cond_split);exact rfl)<;>intro hb<;>(try simp only [SPLT] at hb)<;>(try (have hbl:=And.left hb;have hbr:=And.right hb))<;>(try (have hbll:=And.left hbl;have hblr:=And.right hbl))<;>(try first|contradiction|exact (bff hb (by assumption)).elim|exact (bft hb (by assumption)).elim|(exfalso;omega)))
        | ((with_reducible apply (wp_region_lit (id:=0)))
           ((apply l_assign);exact evE;(try simp only [SS,Nat.reduceAdd]))
           (apply wpList_nil))
        | ((fail_if_success with_reducible first|apply no_region|apply no_list|apply no_oper|apply no_par|apply no_loop);go_step))
  go_ret
  exact ⟨rfl,hB.trans (Bel.of hx)⟩
theorem quote_at (s:Str) (hs:s.length≤100000000) (w:World):Calls Tryz.prog 23 #[.string ⟨s.toArray⟩] w fun e w'=>e=.returned (.string ⟨(quoteS s).toArray⟩)∧Ext w w':=by
  go_enter Tryz.func23,Tryz.ntmps23
  repeat' (
      first
        |((with_reducible apply wp_seq_k);intro K hK)
        |(simp only [Exit.then,Exit.inBlock,↓reduceIte,Nat.reduceEqDiff])
        |(with_reducible first|apply wp_block|apply wp_skip|apply wp_exit)
        |((with_reducible apply wp_cond_true);exact rfl)
        |((with_reducible apply wp_cond_false);exact rfl)
        |(((with_reducible apply wp_cond_split);exact rfl)<;>intro hb<;>(try simp only [SPLT] at hb)<;>(try (have hbl:=And.left hb;have hbr:=And.right hb))<;>(try (have hbll:=And.left hbl;have hblr:=And.right hbl))<;>(try first|contradiction|exact (bff hb (by assumption)).elim|exact (bft hb (by assumption)).elim|(exfalso;omega)))
        | ((with_reducible apply (wp_region_lit (id:=0)))
           ((apply l_assign);exact evE;(try simp only [SS,Nat.reduceAdd]))
           (apply wpList_nil))
        | ((fail_if_success with_reducible first|apply no_region|apply no_list|apply no_oper|apply no_par|apply no_loop);go_step))
  with_reducible apply (wp_region_lit (id:=1))
  refine l_buildSlice (xs := [.const (.string ⟨#[92]⟩),.const (.string ⟨#[92,92]⟩),.const (.string ⟨#[34]⟩),.const (.string ⟨#[92,34]⟩)]) (vals := [st [92],st [92,92],st [34],st [92,34]]) (rows:=pairs) rfl rfl rfl rfl rfl rfl fun g w1 hb1 hx1 hg1 => ?_
  (try simp only [SS,Nat.reduceAdd])
  have hr1:RowAt w1 g 0 [st [92],st [92,92],st [34],st [92,34]]:=fun j y hj=>by
    rw [hb1.cell,Nat.zero_add,List.getElem?_toArray]
    exact hj
  refine l_enter (al := [.slice (some ⟨g,0,none⟩) 4 4]) rfl ?_
  refine (newRep g w1 hr1).mono fun e w2 ⟨g2,v,he,hg2,hx2,hb2,hs2⟩ => ?_
  subst he
  obtain ⟨A,c,rfl,h1,h2,h3,h4⟩:=hs2
  obtain ⟨_,bo,o,rfl,hp0⟩:=h4 0 _ rfl
  have hr2:RowAt w2 bo o [st [92],st [92,92],st [34],st [92,34]]:=by
    obtain ⟨_,b1,o1,e1,hp1⟩:=h4 1 _ rfl
    obtain ⟨_,b2,o2,e2,hp2⟩:=h4 2 _ rfl
    obtain ⟨_,b3,o3,e3,hp3⟩:=h4 3 _ rfl
    cases e1
    cases e2
    cases e3
    intro j u hu
    match j,hu with
    |0,hu=>simpa using hp0 0 u hu
    |1,hu=>simpa using hp1 0 u hu
    |2,hu=>simpa using hp2 0 u hu
    |3,hu=>simpa using hp3 0 u hu
    |j+4,hu=>simp at hu
  (try simp only [SS,Nat.reduceAdd])
  (apply l_move);exact evE;(try simp only [SS,Nat.reduceAdd])
  refine l_enter (al := [.pointer (some ⟨g2,0,none⟩),.string ⟨s.toArray⟩]) rfl ?_
  refine (rep_at g2 bo o c s hs w2 hb2 hr2).mono fun e w3 ⟨he,hB⟩ => ?_
  subst he
  (try simp only [SS,Nat.reduceAdd])
  have hx3:Ext w w3:=Bel.ext hB (hx1.trans hx2) (Nat.le_trans hx1.sizeOf hg2)
  have hl:=escS_len s
  (with_reducible apply (l_cat (s := [34]) (u:=escS s)));exact rfl;exact rfl;(focus (simp;omega));(try simp only [SS,Nat.reduceAdd])
  (with_reducible apply (l_cat (s := [34]++escS s) (u := [34])));exact rfl;exact rfl;(focus (simp;omega));(try simp only [SS,Nat.reduceAdd])
  (apply l_assign);exact evE;(try simp only [SS,Nat.reduceAdd])
  apply wpList_nil
  repeat' (
      first
        |((with_reducible apply wp_seq_k);intro K hK)
        |(simp only [Exit.then,Exit.inBlock,↓reduceIte,Nat.reduceEqDiff])
        |(with_reducible first|apply wp_block|apply wp_skip|apply wp_exit)
        |((with_reducible apply wp_cond_true);exact rfl)
        |((with_reducible apply wp_cond_false);exact rfl)
        |(((with_reducible apply wp_cond_split);exact rfl)<;>intro hb<;>(try simp only [SPLT] at hb)<;>(try (have hbl:=And.left hb;have hbr:=And.right hb))<;>(try (have hbll:=And.left hbl;have hblr:=And.right hbl))<;>(try first|contradiction|exact (bff hb (by assumption)).elim|exact (bft hb (by assumption)).elim|(exfalso;omega)))
        | ((with_reducible apply (wp_region_lit (id:=0)))
           ((apply l_assign);exact evE;(try simp only [SS,Nat.reduceAdd]))
           (apply wpList_nil))
        | ((fail_if_success with_reducible first|apply no_region|apply no_list|apply no_oper|apply no_par|apply no_loop);go_step))
  go_ret
  exact ⟨rfl,hx3⟩
end Go.Proofs.YtindehjiaknokaaGreatDoor
