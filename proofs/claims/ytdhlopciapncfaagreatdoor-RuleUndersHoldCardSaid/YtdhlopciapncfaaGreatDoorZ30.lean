/- Texts that are found in trees: the program (walks). -/
import Derived.Test.YtdhlopciapncfaaGreatDoorZ29
namespace Go.Proofs.YtdhlopciapncfaaGreatDoor
set_option linter.unusedSimpArgs false
set_option linter.unusedVariables false
open Go.RowKit
set_option maxRecDepth 100000
set_option maxHeartbeats 4000000
theorem Kids_sem (tree:List Br) (p:Str) (hp:p.length≤1000) (hs:Br.sizes tree≤100000):Sem Tryz.prog 14 [.sl 0 4 (tree.map Br.row),.str p] (.sl 0 1 ((kidsP p tree).map klR)):=by
 unfold kidsP
 by_cases h:p = []
 ·subst h
  rw [if_pos rfl]
  refine si [1000016,1000021,1000047] Tryz.func14 ?_
  repeat'((conv=>whnf);first|(try(first|apply eN|apply eC);conv=>whnf);apply sD;(focus first|(refine gx (namesOf_sem ?_ ?_)<;>exact pre)|(refine gx (kidsOf_sem ?_ ?_ ?_ ?_)<;>exact pre)|exact side)|apply rR|apply rE|apply rH| (apply cD<;>intro hb<;>(try simp only[SPLT]at hb)<;>try exact noB))
  all_goals try exact false
  exact finR
 ·rw [if_neg h]
  have h1:=namesOf_sem p hp
  have hl:=parts_len (c:=47) p
  have h2:=kidsOf_sem tree (partsAt 47 p) (by omega) hs
  generalize partsAt 47 p=ns at h1 h2
  refine si [1000016,1000021,1000047] Tryz.func14 ?_
  repeat'((conv=>whnf);first|(try(first|apply eN|apply eC);conv=>whnf);apply sD;(focus first|exact gx h1|exact gx h2|(refine gx (namesOf_sem ?_ ?_)<;>exact pre)|(refine gx (kidsOf_sem ?_ ?_ ?_ ?_)<;>exact pre)|exact side)|apply rR|apply rE|apply rH| ((apply cD)<;>intro hb<;>(try simp only [SPLT] at hb)<;>(try first|exact noB|(exact h hb;done))))
  all_goals try exact false
  exact finR
theorem textAt_sem (t:Str) (els:List El) (e:Int) (k:Nat) (pt:Int) (el:El) (p:List Str) (he:els[(e - 1).toNat]?=some el) (hk:el[k]?=some p) (he1:1≤e) (he2:e≤1000) (hp1:1≤pt) (hp2:pt≤1000) (hlk:el.length≤1000):
  Sem Tryz.prog 53 [.agg [.str t,.sl 0 1 (els.map elR)],.agg [.int .i64 e,.int .i64 ((k:Int)+1),.int .i64 pt]] (.tup [.str (p[(pt - 1).toNat]?.getD []),.bool (p[(pt - 1).toNat]?).isSome]):=by
 have hll:(els.map elR).length=els.length:=List.length_map _
 have hkl:=(gLt hk)
 have hel:=(gLt he)
 have hlm:(el.map repR).length=el.length:=List.length_map _
 have hpm:(p.map partR).length=p.length:=List.length_map _
 by_cases hlen:(pt - 1).toNat < p.length
 ·obtain ⟨s,hs⟩:∃ s,p[(pt - 1).toNat]?=some s:=⟨_,List.getElem?_eq_getElem hlen⟩
  rw [hs]
  refine si [1000016,1000021,1000047] Tryz.func53 ?_
  repeat'((conv=>whnf);first|(try(first|apply eN|apply eI|apply eC);conv=>whnf);apply sD;(focus(try intro hc;have hc0:=hc;(try simp only[SPLT]at hc);try refine and0 ?_);first|(exact idx_el he (by omega))|(exact idx_rep hk (by omega))|(exact idx_str hs (by omega))|exact sideG)|(first|apply dG|apply kB);kernel_rfl|apply rR|apply rE|apply rH| (apply cD<;>intro hb<;>(try simp only[SPLT]at hb)<;>try exact noB))
  all_goals try exact false
  repeat' ((conv=>whnf);first|exact endR|with_reducible first|apply And.intro|apply oR|apply oN|apply dC)
  all_goals (conv=>whnf)
  exact rle_str rfl
 ·rw [List.getElem?_eq_none_iff.2 (by omega)]
  refine si [1000016,1000021,1000047] Tryz.func53 ?_
  repeat'((conv=>whnf);first|(try(first|apply eN|apply eI|apply eC);conv=>whnf);apply sD;(focus(try intro hc;have hc0:=hc;(try simp only[SPLT]at hc);try refine and0 ?_);first|(exact idx_el he (by omega))|(exact idx_rep hk (by omega))|exact sideG)|(first|apply dG|apply kB);kernel_rfl|apply rR|apply rE|apply rH| (apply cD<;>intro hb<;>(try simp only[SPLT]at hb)<;>try exact noB))
  all_goals try exact false
  repeat' ((conv=>whnf);first|exact endR|with_reducible first|apply And.intro|apply oR|apply oN|apply dC)
  all_goals (conv=>whnf)
  exact rle_str rfl
def elTexts (pt:Int) (e:El):List Str:=(e.filterMap fun p=>p[(max pt 1 - 1).toNat]?).filter fun s=>s != []
theorem elTexts_at {pt:Int} {e:El} {k:Nat} {p:List Str} (h:e[k]?=some p):elTexts pt (e.drop k)=if p[(max pt 1 - 1).toNat]?.getD [] = [] then elTexts pt (e.drop (k+1)) else p[(max pt 1 - 1).toNat]?.getD []::elTexts pt (e.drop (k+1)):=by
 unfold elTexts
 rw [List.drop_eq_getElem_cons (gLt h),(List.getElem?_eq_some_iff.1 h).2]
 cases hp:p[(max pt 1 - 1).toNat]? with
 |none=>rw [List.filterMap_cons_none (f:=fun p:List Str=>p[(max pt 1 - 1).toNat]?) hp];rfl
 |some s=>
  rw [List.filterMap_cons_some (f:=fun p:List Str=>p[(max pt 1 - 1).toNat]?) hp,List.filter_cons]
  show _=if s = [] then _ else s::_
  cases s with
  |nil=>rfl
  |cons b s=>rfl
theorem flatF_at {tag:Str} {el pt:Int} {ls:List (List Br)} {k:Nat} {l:List Br} (h:ls[k]?=some l):(ls.drop k).flatMap (listTexts tag el pt)=listTexts tag el pt l++(ls.drop (k+1)).flatMap (listTexts tag el pt):=by
 rw [List.drop_eq_getElem_cons (gLt h),(List.getElem?_eq_some_iff.1 h).2,List.flatMap_cons]
theorem listT_yes {tag t n:Str} {els:List El} {ks:List Br} {el pt:Int} {l:List Br} {m:Nat} (h:l[m]?=some (.mk n t els ks)) (e:n = []) (e2:t=tag):listTexts tag el pt (l.drop m)=segTexts t els el pt++listTexts tag el pt (l.drop (m+1)):=by
 unfold listTexts
 rw [List.drop_eq_getElem_cons (gLt h),(List.getElem?_eq_some_iff.1 h).2,List.flatMap_cons]
 congr 1
 exact if_pos ⟨e,e2⟩
theorem listT_no {tag t n:Str} {els:List El} {ks:List Br} {el pt:Int} {l:List Br} {m:Nat} (h:l[m]?=some (.mk n t els ks)) (e:¬ (n = []∧t=tag)):listTexts tag el pt (l.drop m)=listTexts tag el pt (l.drop (m+1)):=by
 unfold listTexts
 rw [List.drop_eq_getElem_cons (gLt h),(List.getElem?_eq_some_iff.1 h).2,List.flatMap_cons]
 have:(if (Br.mk n t els ks).name = []∧(Br.mk n t els ks).tag=tag then segTexts (Br.mk n t els ks).tag (Br.mk n t els ks).els el pt else []) = []:=if_neg e
 rw [this,List.nil_append]
theorem texts_sem (tree:List Br) (ns:List Str) (tag:Str) (el pt:Int) (hl:ns.length≤2000) (hs:Br.sizes tree≤100000) (hn:∀ b ∈ tree,b.Nar) (he0:0≤el) (he1:el≤1000) (hp0:0≤pt) (hp1:pt≤1000):
  Sem Tryz.prog 29 [.sl 0 4 (tree.map Br.row),.agg [.sl 0 1 (ns.map fun s => [.str s]),.str tag,.int .i64 el,.int .i64 pt]] (.sl 0 1 ((findTexts ns tag el pt tree).map fun s => [.str s])):=by
 have h1:=kidsOf_sem tree ns hl hs
 have hok:=(findTexts_ok (ns:=ns) (tag:=tag) (el:=el) (pt:=pt) hn hs).1
 have hin:=inside_nar ns tree hn
 have hsz:=inside_sz ns tree
 unfold findTexts at hok ⊢
 generalize inside1 ns tree=ls at h1 hok hin hsz ⊢
 have hlsl:(ls.map klR).length=ls.length:=List.length_map _
 have hlsz:=lszs_len ls
 generalize hR:ls.flatMap (listTexts tag el pt)=R at hok ⊢
 refine si [1000016,1000021,1000047] Tryz.func29 ?_
 repeat'((conv=>whnf);first|(try(first|apply eN|apply eI|apply eC);conv=>whnf);apply sD;(focus(try intro hc;have hc0:=hc;(try simp only[SPLT]at hc);try refine and0 ?_);first|exact gx h1|(refine gx (kidsOf_sem ?_ ?_ ?_ ?_)<;>exact pre)|(refine gx (textAt_sem ?_ ?_ ?_ ?_ ?_ ?_ ?_ ?_ ?_ ?_ ?_ ?_ ?_ ?_)<;>exact pre)|exact sideG)|apply rR|apply rE|apply rH| (apply cD<;>intro hb<;>(try simp only[SPLT]at hb)<;>try exact noB))
 all_goals try exact false
 refine loop_go (M:=fun t=>mem t [1000016,1000021,1000047]) hT hM (fun x:Nat × List Str => [(19,.int .i64 x.1),(5,.sl 1 1 (x.2.map fun s => [.str s]))]) (fun x=>x.1≤ls.length∧x.2++(ls.drop x.1).flatMap (listTexts tag el pt)=R) (fun x=>ls.length - x.1) ((0,[])) ?_ ?_ ?_
 ·(conv=>whnf)
  refine ⟨?_,by rfl⟩
  repeat' ((conv=>whnf);first|exact endF|(exact dle_nil rfl)|exact endF2|with_reducible apply dC)
 ·exact ⟨Nat.zero_le _,by simpa using hR⟩
 ·rintro ⟨k,acc⟩ ⟨hk,hacc⟩
  dsimp only at hk hacc ⊢
  cases hy:ls[k]? with
  |none=>
   have hm:=List.getElem?_eq_none_iff.1 hy
   rw [List.drop_of_length_le hm] at hacc
   have hacc:acc=R:=by simpa using hacc
   subst hacc
   repeat'((conv=>whnf);first|(try(first|apply eN|apply eI|apply eC);conv=>whnf);apply sD;(focus(try intro hc;have hc0:=hc;(try simp only[SPLT]at hc);try refine and0 ?_);first|(refine gx (kidsOf_sem ?_ ?_ ?_ ?_)<;>exact pre)|(refine gx (textAt_sem ?_ ?_ ?_ ?_ ?_ ?_ ?_ ?_ ?_ ?_ ?_ ?_ ?_ ?_)<;>exact pre)|exact sideG)|apply rR|apply rE|apply rH| (apply cD<;>intro hb<;>(try simp only[SPLT]at hb)<;>try exact noB))
   all_goals try exact false
   exact finR
  |some l=>
   have hlk:=(gLt hy)
   rw [flatF_at hy] at hacc
   have hll:(l.map Br.row).length=l.length:=List.length_map _
   have hlsz2:=blen_sizes l
   have hlm:=lszs_mem (gMem hy)
   have hnl:=hin l (gMem hy)
   generalize hrest:(ls.drop (k+1)).flatMap (listTexts tag el pt)=rest at hacc
   repeat'((conv=>whnf);first|(try(first|apply eN|apply eI|apply eC);conv=>whnf);apply sD;(focus(try intro hc;have hc0:=hc;(try simp only[SPLT]at hc);try refine and0 ?_);first|(exact idx_kl hy rfl)|(refine gx (kidsOf_sem ?_ ?_ ?_ ?_)<;>exact pre)|(refine gx (textAt_sem ?_ ?_ ?_ ?_ ?_ ?_ ?_ ?_ ?_ ?_ ?_ ?_ ?_ ?_)<;>exact pre)|exact sideG)|apply rR|apply rE|apply rH| (apply cD<;>intro hb<;>(try simp only[SPLT]at hb)<;>try exact noB))
   all_goals try exact false
   refine loop_go (M:=fun t=>mem t [1000016,1000021,1000047]) hT hM (fun x:Nat × List Str => [(25,.int .i64 x.1),(5,.sl 1 1 (x.2.map fun s => [.str s]))]) (fun x=>x.1≤l.length∧x.2++(listTexts tag el pt (l.drop x.1)++rest)=R) (fun x=>l.length - x.1) ((0,acc)) ?_ ?_ ?_
   ·exact finF
   ·exact ⟨Nat.zero_le _,by simpa using hacc⟩
   ·rintro ⟨m,ac⟩ ⟨hmm,hac⟩
    dsimp only at hmm hac ⊢
    have hacl:ac.length≤10000000:=by
     have:=congrArg List.length hac
     rw [List.length_append] at this
     omega
    cases hz:l[m]? with
    |none=>
     have hm2:=List.getElem?_eq_none_iff.1 hz
     rw [List.drop_of_length_le hm2] at hac
     repeat'((conv=>whnf);first|(try(first|apply eN|apply eI|apply eC);conv=>whnf);apply sD;(focus(try intro hc;have hc0:=hc;(try simp only[SPLT]at hc);try refine and0 ?_);first|(refine gx (kidsOf_sem ?_ ?_ ?_ ?_)<;>exact pre)|(refine gx (textAt_sem ?_ ?_ ?_ ?_ ?_ ?_ ?_ ?_ ?_ ?_ ?_ ?_ ?_ ?_)<;>exact pre)|exact sideG)|apply rR|apply rE|apply rH| (apply cD<;>intro hb<;>(try simp only[SPLT]at hb)<;>try exact noB))
     all_goals try exact false
     refine ⟨(k+1,ac),⟨by dsimp only;omega,?_⟩,by dsimp only;omega,?_⟩
     ·dsimp only
      rw [hrest]
      rw [show listTexts tag el pt [] = [] from rfl,List.nil_append] at hac
      exact hac
     ·exact finF
    |some b=>
     have hlm2:=(gLt hz)
     have hnb:=hnl b (gMem hz)
     obtain ⟨n1,t1,els1,ks1⟩:=b
     obtain ⟨htl,hel,hne,_⟩:=hnb
     have helm:(els1.map elR).length=els1.length:=List.length_map _
     obtain ⟨e,hx⟩:∃ e:El,el - 1 < els1.length→1≤el→els1[(el - 1).toNat]?=some e:=⟨els1[(el - 1).toNat]?.getD [],fun h h'=>by rw [List.getElem?_eq_getElem (by omega)];rfl⟩
     repeat'((conv=>whnf);first|(try(first|apply eN|apply eI|apply eC);conv=>whnf);apply sD;(focus(try intro hc;have hc0:=hc;(try simp only[SPLT]at hc);try refine and0 ?_);first|(exact idx_br hz rfl)|(exact idx_el (hx (by omega) (by omega)) (by omega))|(refine gx (kidsOf_sem ?_ ?_ ?_ ?_)<;>exact pre)|(refine gx (textAt_sem ?_ ?_ ?_ ?_ ?_ ?_ ?_ ?_ ?_ ?_ ?_ ?_ ?_ ?_)<;>exact pre)|exact sideG)|apply rR|apply rE|apply rH| (apply cD<;>intro hb<;>(try simp only[SPLT]at hb)<;>try exact noB))
     all_goals try exact false
     ·rw [listT_no hz (fun h=>by rcases hb with g|g;exact g h.1;exact g h.2)] at hac
      refine ⟨(m+1,ac),⟨by dsimp only;omega,hac⟩,by dsimp only;omega,?_⟩
      exact finF
     ·rename_i g1 g2
      rw [listT_yes hz g2.1 g2.2] at hac
      have hsg:segTexts t1 els1 el pt = [tag]:=by unfold segTexts;rw [if_pos hb,g2.2]
      rw [hsg,List.append_assoc,← List.append_assoc] at hac
      refine ⟨(m+1,ac ++ [tag]),⟨by dsimp only;omega,hac⟩,by dsimp only;omega,?_⟩
      (conv=>whnf)
      refine ⟨?_,by rfl⟩
      repeat' ((conv=>whnf);first|exact endF|(exact DLe.of_eq (congrArg (D.sl 1 1) (by rw [List.map_append];rfl)))|exact endF2|with_reducible apply dC)
     ·rename_i g1 g2 g3
      rw [listT_yes hz g2.1 g2.2] at hac
      have hsg:segTexts t1 els1 el pt = []:=by
       unfold segTexts
       rw [if_neg g3,List.getElem?_eq_none_iff.2 (by omega)]
      rw [hsg,List.nil_append] at hac
      refine ⟨(m+1,ac),⟨by dsimp only;omega,hac⟩,by dsimp only;omega,?_⟩
      exact finF
     ·rename_i g1 g2 g3
      have hx:=hx (by omega) (by omega)
      rw [listT_yes hz g2.1 g2.2] at hac
      have hsg:segTexts t1 els1 el pt=elTexts pt e:=by
       unfold segTexts
       rw [if_neg g3,hx]
       rfl
      rw [hsg,List.append_assoc] at hac
      have hnE:=hne e (gMem hx)
      have hef:=hnE.few
      have hem:(e.map repR).length=e.length:=List.length_map _
      generalize hrest2:listTexts tag el pt (l.drop (m+1))++rest=rest2 at hac
      refine loop_go (M:=fun t=>mem t [1000016,1000021,1000047]) hT hM (fun x:Nat × List Str => [(65,.int .i64 x.1),(5,.sl 1 1 (x.2.map fun s => [.str s]))]) (fun x=>x.1≤e.length∧x.2++(elTexts pt (e.drop x.1)++rest2)=R) (fun x=>e.length - x.1) ((0,ac)) ?_ ?_ ?_
      ·exact finF
      ·exact ⟨Nat.zero_le _,by simpa using hac⟩
      ·rintro ⟨j,a⟩ ⟨hj,ha⟩
       dsimp only at hj ha ⊢
       have hal:a.length≤10000000:=by
        have:=congrArg List.length ha
        rw [List.length_append] at this
        omega
       cases hw:e[j]? with
       |none=>
        have hm3:=List.getElem?_eq_none_iff.1 hw
        rw [List.drop_of_length_le hm3,show elTexts pt [] = [] from rfl,List.nil_append] at ha
        repeat'((conv=>whnf);first|(try(first|apply eN|apply eI|apply eC);conv=>whnf);apply sD;(focus(try intro hc;have hc0:=hc;(try simp only[SPLT]at hc);try refine and0 ?_);first|(refine gx (kidsOf_sem ?_ ?_ ?_ ?_)<;>exact pre)|(refine gx (textAt_sem ?_ ?_ ?_ ?_ ?_ ?_ ?_ ?_ ?_ ?_ ?_ ?_ ?_ ?_)<;>exact pre)|exact sideG)|apply rR|apply rE|apply rH| (apply cD<;>intro hb<;>(try simp only[SPLT]at hb)<;>try exact noB))
        all_goals try exact false
        refine ⟨(m+1,a),⟨by dsimp only;omega,?_⟩,by dsimp only;omega,?_⟩
        ·dsimp only
         rw [hrest2]
         exact ha
        ·exact finF
       |some p=>
        have hlj:=(gLt hw)
        have ht:=textAt_sem t1 els1 el j (max pt 1) e p hx hw (by omega) (by omega) (by omega) (by omega) (by omega)
        rw [elTexts_at hw] at ha
        generalize p[(max pt 1 - 1).toNat]?.getD []=s at ht ha
        generalize (p[(max pt 1 - 1).toNat]?).isSome=sb at ht
        repeat'((conv=>whnf);first|(try(first|apply eN|apply eI|apply eC);conv=>whnf);apply sD;(focus(try intro hc;have hc0:=hc;(try simp only[SPLT]at hc);try refine and0 ?_);first|exact gx ht|(refine gx (kidsOf_sem ?_ ?_ ?_ ?_)<;>exact pre)|(refine gx (textAt_sem ?_ ?_ ?_ ?_ ?_ ?_ ?_ ?_ ?_ ?_ ?_ ?_ ?_ ?_)<;>exact pre)|exact sideG)|apply rR|apply rE|apply rH| (apply cD<;>intro hb<;>(try simp only[SPLT]at hb)<;>try exact noB))
        all_goals try exact false
        ·rw [if_neg hb,List.cons_append,List.append_cons] at ha
         refine ⟨(j+1,a ++ [s]),⟨by dsimp only;omega,ha⟩,by dsimp only;omega,?_⟩
         (conv=>whnf)
         refine ⟨?_,by rfl⟩
         repeat' ((conv=>whnf);first|exact endF|(exact DLe.of_eq (congrArg (D.sl 1 1) (by rw [List.map_append];rfl)))|exact endF2|with_reducible apply dC)
        ·rw [if_pos hb] at ha
         refine ⟨(j+1,a),⟨by dsimp only;omega,ha⟩,by dsimp only;omega,?_⟩
         exact finF
end Go.Proofs.YtdhlopciapncfaaGreatDoor
