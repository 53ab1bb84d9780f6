/- strings.Split at one byte, and the last place of a byte. One simple condition is right, and its text: walks at this condition. -/
import Derived.Test.YtindehjiaknokaaGreatDoorY13
import Derived.Test.YtindehjiaknokaaGreatDoorY12
namespace Go.Proofs.YtindehjiaknokaaGreatDoor
set_option linter.unusedSimpArgs false
set_option linter.unusedVariables false
open Go.RowKit
set_option maxRecDepth 100000
set_option maxHeartbeats 1000000
theorem split_sem (s:Str) (c:UInt8) (hs:s.length < 4294967281):Sem Tryz.prog 82 [.str s,.str [c]] (.sl 2 1 ((partsAt c s).map fun x => [.str x])):=by
 refine ⟨inferInstance,rfl,fun S w vs hw hl hr => ?_⟩
 obtain rfl:=vals_eq (q:=fun i=>.slot i) (us := [.string ⟨s.toArray⟩,.string ⟨#[c]⟩]) rfl hl hr
 have hsz:(⟨s.toArray⟩:ByteArray).size=s.length:=by show s.toArray.size=_;simp
 obtain ⟨m,hm⟩:=int_there (g:=0) rfl hw.gl
 have hcount:Lib.countB ⟨s.toArray⟩ ⟨#[c]⟩=s.count c:=Lib.count_one c _
 have hle:s.count c≤s.length:=List.count_le_length
 have hlen:=Lib.splitB_all ⟨#[c]⟩ (Nat.le_refl 1) 0 (s.count c) ⟨s.toArray⟩ hcount
 have hsp:=split_parts (c:=c) ⟨s.toArray⟩
 rw [hcount] at hsp
 refine (Tryz.strings_Split ⟨s.toArray⟩ ⟨#[c]⟩ m w (by rw [hsz];exact hs) hm (Nat.le_refl 1)).mono fun e w' ⟨he,hw'⟩ => ?_
 rw [hcount] at he hw'
 generalize Lib.splitB ⟨#[c]⟩ 0 (s.count c) ⟨s.toArray⟩=L at he hw' hlen hsp
 have hrows:(partsAt c s).map (fun x => [D.str x])=L.map fun x => [D.str x.data.toList]:=by
  rw [← (show partsAt c (⟨s.toArray⟩:ByteArray).data.toList=partsAt c s by simp),← hsp,List.map_map]
  rfl
 rw [hrows]
 obtain ⟨S',k1,k2,k3⟩:=made_rows (v:=.slice (some ⟨w.heap.size,0,none⟩) L.length (s.count c+1)) (sz:=1) (rows:=L.map fun x => [D.str x.data.toList]) (news:=L.map Value.string) (t:=9) hw (w':=w') (by subst hw';exact Ext.alloc _ _) (fun r hr=>by
  obtain ⟨x,_,rfl⟩:=List.mem_map.1 hr
  rfl) (fun u hu=>by
  obtain ⟨x,_,rfl⟩:=List.mem_map.1 hu
  rfl) (fun k r j d hk hd=>by
  rw [List.getElem?_map] at hk
  cases hlk:L[k]? with
  |none=>rw [hlk] at hk;cases hk
  |some x=>
   rw [hlk] at hk
   cases hk
   match j,hd with
   |0,hd=>
    cases hd
    exact ⟨.string x,by simp [hlk],.str x.data.toList⟩
   | j+1,hd=>simp at hd) ⟨by simp,.inr ⟨w.heap.size,s.count c+1,_,by simp,Nat.le_refl _,by subst hw';exact heap_alloc_new w _,by simp;omega,by unfold maxLen;omega,by simp;omega,by simp;exact List.take_of_length_le (by simp)⟩⟩
 rw [← hlen] at he
 rw [← hlen] at k3
 exact ⟨_,S',he,k1,k2,k3⟩
theorem lastIndex_sem (s:Str) (c:UInt8) (hs:s.length < 4611686018427387904):Sem Tryz.prog 101 [.str s,.int .u8 c.toNat] (.int .i64 (Lib.lastIndexByte ⟨s.toArray⟩ c.toNat)):=
 sem_valsK (us := [.string ⟨s.toArray⟩,.int .u8 c.toNat]) (v:=.int .i64 (Lib.lastIndexByte ⟨s.toArray⟩ c.toNat)) rfl rfl (fun _ _=>.int _ _) fun w=>
  (Tryz.strings_LastIndexByte ⟨s.toArray⟩ c.toNat (by show s.toArray.size < _;simpa using hs) w).mono fun e w' ⟨h1,h2⟩=>⟨h1,h2 ▸ Ext.refl _⟩
set_option maxHeartbeats 2000000
def bgm:Str := [66,71,77]
theorem bgm_way:Sem Tryz.prog 80 [.str bgm] (.tup [.agg [.sl 0 1 [],.str bgm,.int .i64 0,.int .i64 0],.bool true]):=by
 have h1:=lastIndex_sem bgm 47 (by decide)
 rw [show Lib.lastIndexByte ⟨bgm.toArray⟩ (47:UInt8).toNat = -1 by decide +kernel] at h1
 have h2:=(split_sem bgm 46 (by decide)).frozen
 rw [show partsAt 46 bgm = [bgm] by decide] at h2
 have h3:=isTag_sem bgm (by decide)
 rw [show isTagB bgm=true by decide] at h3
 refine si [2,4,1000016] Tryz.func80 ?_
 repeat'((conv=>whnf);first|(try(first|apply eN|apply eI|apply eC);conv=>whnf);apply sD;(focus(try intro hc;have hc0:=hc;(try simp only[SPLT]at hc);try refine and0 ?_);first|exact gx h1|exact gx h2|exact gx h3|(refine gx (lastIndex_sem ?_ ?_ ?_)<;>exact pre)|(refine gx (split_sem ?_ ?_ ?_)<;>exact pre)|(refine gx (isTag_sem ?_ ?_)<;>exact pre)|(refine gx (outsideK_sem ?_ ?_ ?_)<;>exact pre)|exact sideG)|(first|apply dG|apply kB);kernel_rfl|apply rR|apply rE|apply rH| (apply cD<;>intro hb<;>(try simp only[SPLT]at hb)<;>try exact noB))
 all_goals try exact false
 refine loop_go (M:=fun t=>mem t [2,4,1000016]) hT hM (fun _:Unit => [(54,.int .i64 0),(4,.obj [.nil,.str bgm,.int .i64 0,.int .i64 0])]) (fun _=>True) (fun _=>0) (()) ?_ ?_ ?_
 ·exact finF
 ·exact trivial
 ·rintro _ _
  repeat'((conv=>whnf);first|(try(first|apply eN|apply eI|apply eC);conv=>whnf);apply sD;(focus(try intro hc;have hc0:=hc;(try simp only[SPLT]at hc);try refine and0 ?_);first|exact gx h1|exact gx h2|exact gx h3|(refine gx (lastIndex_sem ?_ ?_ ?_)<;>exact pre)|(refine gx (split_sem ?_ ?_ ?_)<;>exact pre)|(refine gx (isTag_sem ?_ ?_)<;>exact pre)|(refine gx (outsideK_sem ?_ ?_ ?_)<;>exact pre)|exact sideG)|(first|apply dG|apply kB);kernel_rfl|apply rR|apply rE|apply rH| (apply cD<;>intro hb<;>(try simp only[SPLT]at hb)<;>try exact noB))
  all_goals try exact false
  repeat' ((conv=>whnf);first|exact endR|with_reducible first|apply And.intro|apply oR|apply oN|apply dC)
  all_goals (conv=>whnf)
  (first|refine rle_agg ?_|refine dle_agg ?_|skip)
  repeat' (first|exact endF|exact endF2|with_reducible apply dC|with_reducible apply dle_agg)
theorem bgm_path:Sem Tryz.prog 56 [.str bgm] (.int .i64 0):=by
 have h1:=bgm_way
 refine si [1000016] Tryz.func56 ?_
 repeat'((conv=>whnf);first|(try(first|apply eN|apply eI|apply eC);conv=>whnf);apply sD;(focus first|exact gx h1|(refine gx (bgm_way )<;>exact pre)|exact side)|apply rR|apply rE|apply rH| (apply cD<;>intro hb<;>(try simp only[SPLT]at hb)<;>try exact noB))
 all_goals try exact false
 exact finR
theorem bgm_form:formB 4 0 bgm 0 0 0=false:=by decide
theorem bgm_own:Sem Tryz.prog 28 [.agg [.int .i64 4,.sl 0 6 [],.str bgm,.sl 0 1 [],.int .i64 0,.int .i64 0]] (.int .i64 0):=by
 have h1:=bgm_path
 have h2:=formFault_sem 4 [] bgm [] 0 0
 rw [show formB 4 ([]:List (List D)).length bgm ([]:List (List D)).length 0 0=false from bgm_form] at h2
 have h3:=usesOf_sem 4
 rw [show usesOfB 4=false by decide] at h3
 have h4:=isOver_sem 4
 rw [show overB 4=false by decide] at h4
 have h5:=outsideK_sem 4 1 9
 refine si [1000016] Tryz.func28 ?_
 repeat'((conv=>whnf);first|(try(first|apply eN|apply eI|apply eC);conv=>whnf);apply sD;(focus first|exact gx h1|exact gx h2|exact gx h3|exact gx h4|exact gx h5|(refine gx (outsideK_sem ?_ ?_ ?_)<;>exact pre)|(refine gx (formFault_sem ?_ ?_ ?_ ?_ ?_ ?_)<;>exact pre)|(refine gx (usesOf_sem ?_)<;>exact pre)|(refine gx (isOver_sem ?_)<;>exact pre)|(refine gx (bgm_path )<;>exact pre)|(refine gx (valuesFault_sem ?_)<;>exact pre)|(refine gx (endsFault_sem ?_ ?_ ?_ ?_ ?_ ?_)<;>exact pre)|exact side)|apply rR|apply rE|apply rH| (apply cD<;>intro hb<;>(try simp only[SPLT]at hb)<;>try exact noB))
 all_goals try exact false
 exact finR
theorem bgm_write:Sem Tryz.prog 14 [.agg [.int .i64 4,.sl 0 6 [],.str bgm,.sl 0 1 [],.int .i64 0,.int .i64 0]] (.str ([116,104,101,114,101,32]++bgm)):=by
 refine si [1000016] Tryz.func14 ?_
 repeat'((conv=>whnf);first|(try(first|apply eN|apply eI|apply eC);conv=>whnf);apply sD;(focus first|(decide)|exact side)|(first|apply dG|apply kB);kernel_rfl|apply rR|apply rE|apply rH| (apply cD<;>intro hb<;>(try simp only[SPLT]at hb)<;>try exact noB))
 all_goals try exact false
 exact finR
theorem bgm_cond:SemO Tryz.prog 16 (.obj [.int .i64 0]) [.agg [.int .i64 4,.sl 0 6 [],.str bgm,.sl 0 1 [],.int .i64 0,.int .i64 0],.int .i64 0] (.int .i64 0) (some (.obj [.int .i64 1])):=by
 have h1:=bgm_own
 refine sO [0,9,1000016] Tryz.func16 ?_
 repeat'((conv=>whnf);first|(try(first|apply eN|apply eI|apply eC);conv=>whnf);apply sD;(focus(try intro hc;have hc0:=hc;(try simp only[SPLT]at hc);try refine and0 ?_);first|exact gx h1|(refine gx (bgm_own )<;>exact pre)|exact sideG)|((with_reducible apply CallO.go);(conv=>whnf);apply sD;(focus first|(apply giveso_g (bgm_cond );all_goals exact preO)))|apply rR|apply rE|apply rH| (apply cD<;>intro hb<;>(try simp only[SPLT]at hb)<;>try exact noB))
 all_goals try exact false
 refine loop_go (M:=fun t=>mem t [0,9,1000016]) hT hM (fun _:Unit => [(35,.int .i64 0),(0,.obj [.int .i64 1])]) (fun _=>True) (fun _=>0) (()) ?_ ?_ ?_
 ·exact finF
 ·exact trivial
 ·rintro _ _
  repeat'((conv=>whnf);first|(try(first|apply eN|apply eI|apply eC);conv=>whnf);apply sD;(focus(try intro hc;have hc0:=hc;(try simp only[SPLT]at hc);try refine and0 ?_);first|exact gx h1|(refine gx (bgm_own )<;>exact pre)|exact sideG)|((with_reducible apply CallO.go);(conv=>whnf);apply sD;(focus first|(apply giveso_g (bgm_cond );all_goals exact preO)))|apply rR|apply rE|apply rH| (apply cD<;>intro hb<;>(try simp only[SPLT]at hb)<;>try exact noB))
  all_goals try exact false
  exact finR
theorem bgm_check:Sem Tryz.prog 8 [.agg [.int .i64 4,.sl 0 6 [],.str bgm,.sl 0 1 [],.int .i64 0,.int .i64 0]] (.int .i64 0):=by
 refine si [4,1000016] Tryz.func8 ?_
 repeat'((conv=>whnf);first|(try(first|apply eN|apply eI|apply eC);conv=>whnf);apply sD;(focus first|exact side)|((with_reducible apply CallO.go);(conv=>whnf);apply sD;(focus first|(apply giveso_g (bgm_cond );all_goals exact preO)))|apply rR|apply rE|apply rH| (apply cD<;>intro hb<;>(try simp only[SPLT]at hb)<;>try exact noB))
 all_goals try exact false
 exact finR
theorem bgm_text:Sem Tryz.prog 6 [.agg [.int .i64 4,.sl 0 6 [],.str bgm,.sl 0 1 [],.int .i64 0,.int .i64 0]] (.tup [.str ([116,104,101,114,101,32]++bgm),.int .i64 0]):=by
 have h1:=bgm_check
 have h2:=bgm_write
 refine si [1000016] Tryz.func6 ?_
 repeat'((conv=>whnf);first|(try(first|apply eN|apply eI|apply eC);conv=>whnf);apply sD;(focus first|exact gx h1|exact gx h2|(refine gx (bgm_check )<;>exact pre)|(refine gx (bgm_write )<;>exact pre)|exact side)|apply rR|apply rE|apply rH| (apply cD<;>intro hb<;>(try simp only[SPLT]at hb)<;>try exact noB))
 all_goals try exact false
 exact finR
theorem Sem.weak {P:Program} {f:Nat} {args args':List D} {d:D} (h:Sem P f args d) (hl:DLes args' args):Sem P f args' d:=
 ⟨h.1,h.2.1,fun S w vs hw hlen hr=>h.2.2 S w vs hw (by rw [hlen,hl.len]) fun i d v hd hv=>by
  obtain ⟨d',hd'⟩:=cells_back hl.len hd
  exact (hr i d' v hd' hv).le (hl.get hd' hd)⟩
theorem awake4_sem:Sem Tryz.prog 10 [] (.bool true):=by
 have h1:=bgm_text.weak (args' := [.agg [.int .i64 4,.nil,.str [66,71,77],.nil,.int .i64 0,.int .i64 0]]) (.cons (dle_agg (.cons (.refl _) (.cons (.nil _ _) (.cons (.refl _) (.cons (.nil _ _) (.cons (.refl _) (.cons (.refl _) .nil))))))) .nil)
 refine si [1000016] Tryz.func10 ?_
 repeat'((conv=>whnf);first|(try(first|apply eN|apply eC);conv=>whnf);apply sD;(focus(try intro hc;have hc0:=hc;(try simp only[SPLT]at hc);try refine and0 ?_);first|exact gx h1|(refine gx (bgm_text )<;>exact pre)|exact sideG)|apply rR|apply rE|apply rH| (apply cD<;>intro hb<;>(try simp only[SPLT]at hb)<;>try exact noB))
 all_goals try exact false
 exact finR
end Go.Proofs.YtindehjiaknokaaGreatDoor
