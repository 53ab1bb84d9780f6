/- The reader of conditions: texts in quotes (walks). -/
import Derived.Test.YtindehjiaknokaaGreatDoorY19
namespace Go.Proofs.YtindehjiaknokaaGreatDoor
set_option linter.unusedSimpArgs false
set_option linter.unusedVariables false
open Go.RowKit
set_option maxRecDepth 100000
set_option maxHeartbeats 4000000
theorem quoI_enough {s:Str}:∀ (n m i:Nat) (out:Str),s.length - i < n→s.length - i < m→quoI s n i out=quoI s m i out
 |0,_,_,_,h,_=>by omega
 |_,0,_,_,_,h=>by omega
 |n+1,m+1,i,out,hn,hm=>by
  unfold quoI
  cases hx:s[i]? with
  |none=>rfl
  |some c=>
   have hlt:=(gLt hx)
   dsimp only
   split
   ·rfl
   ·split
    ·cases hy:s[i+1]? with
     |none=>rfl
     |some d=>
      have hlt2:=(gLt hy)
      dsimp only
      split
      ·exact quoI_enough n m (i+2) _ (by omega) (by omega)
      ·rfl
    ·exact quoI_enough n m (i+1) _ (by omega) (by omega)
def quoQ (s:Str) (i:Nat) (out:Str):Str × Pl:=quoI s (s.length+1) i out
theorem quo_none {s:Str} {i:Nat} (out:Str) (h:s[i]?=none):quoQ s i out=(out,i,true):=by
 unfold quoQ quoI
 rw [h]
theorem quo_34 {s:Str} {i:Nat} (out:Str) (h:s[i]?=some 34):quoQ s i out=(out,i+1,false):=by
 unfold quoQ quoI
 rw [h]
 rfl
theorem quo_92n {s:Str} {i:Nat} (out:Str) (h:s[i]?=some 92) (h1:s[i+1]?=none):quoQ s i out=(out,i+1,true):=by
 unfold quoQ quoI
 rw [h]
 dsimp only
 rw [if_neg (by decide),if_pos rfl,h1]
theorem quo_92x {s:Str} {i:Nat} {d:UInt8} (out:Str) (h:s[i]?=some 92) (h1:s[i+1]?=some d) (hd:¬ (d=34∨d=92)):quoQ s i out=(out,i+1,true):=by
 unfold quoQ quoI
 rw [h]
 dsimp only
 rw [if_neg (by decide),if_pos rfl,h1]
 dsimp only
 rw [if_neg hd]
theorem quo_92 {s:Str} {i:Nat} {d:UInt8} (out:Str) (h:s[i]?=some 92) (h1:s[i+1]?=some d) (hd:d=34∨d=92):quoQ s i out=quoQ s (i+2) (out ++ [d]):=by
 have hlt:=(gLt h1)
 unfold quoQ
 conv=>lhs;unfold quoI
 rw [h]
 dsimp only
 rw [if_neg (by decide),if_pos rfl,h1]
 dsimp only
 rw [if_pos hd]
 exact quoI_enough _ _ _ _ (by omega) (by omega)
theorem quo_c {s:Str} {i:Nat} {c:UInt8} (out:Str) (h:s[i]?=some c) (h1:c ≠ 34) (h2:c ≠ 92):quoQ s i out=quoQ s (i+1) (out ++ [c]):=by
 have hlt:=(gLt h)
 unfold quoQ
 conv=>lhs;unfold quoI
 rw [h]
 dsimp only
 rw [if_neg h1,if_neg h2]
 exact quoI_enough _ _ _ _ (by omega) (by omega)
theorem bR_snoc (out:Str) (c:UInt8):out.map bR ++ [bR c]=(out ++ [c]).map bR:=by rw [List.map_append];rfl
theorem quoted_f (s : Str) (q : Pl) (i : Nat) (h : wantS s [34] q = (i, false)) (hq : q.1 ≤ s.length) (hs : s.length ≤ 100000000) :
    SemO Tryz.prog 70 (.obj (pC s q)) [] (.str (quoQ s i []).1) (some (.obj (pC s (quoQ s i []).2))) := by
  have hw := want_sem s [34] q hq hs (by decide)
  have hi := (wantS_le (s := s) (t := [34]) hq).2
  rw [h] at hw hi
  dsimp only at hi
  generalize hr : quoQ s i [] = r
  unfold pC at hw ⊢
  dsimp only at hw
  refine sO [0, 1000016, 1000020, 1000030, 1000033, 1000034, 1000038, 1000040, 1000041, 1000070] Tryz.func70 ?_
  repeat' (
    (conv => whnf)
    first
      |((try ((first | apply eN | apply eI | apply eT | apply eC); (conv => whnf))); (apply sD); (focus ((first | (intro hc; have hc0 := hc; (try simp only [SPLT] at hc); (try refine and0 ?_)) | skip); first | exact sideG)))
      |((with_reducible apply CallO.go); (conv => whnf); apply sD; (focus first | (apply giveso_g (hw); all_goals exact preO)))
      |((first | apply dG | apply kB); kernel_rfl)
      |(first | apply rR | apply rE | apply rH)
      | ((apply cD) <;> intro hb <;> (try simp only [SPLT] at hb) <;> (try first | exact noB)))
  all_goals try exact false
  refine loop_go (M := fun t => mem t [0, 1000016, 1000020, 1000030, 1000033, 1000034, 1000038, 1000040, 1000041, 1000070]) hT hM (fun x : Nat × Str => [(0, .obj [.str s, .int .i64 x.1, .bool false]), (3, .sl 1 1 (x.2.map bR))]) (fun x => (x.1 ≤ s.length ∧ x.2.length ≤ x.1) ∧ quoQ s x.1 x.2 = r) (fun x => s.length - x.1) ((i, ([] : Str))) ?_ ?_ ?_
  · exact finF
  · exact ⟨⟨hi, Nat.zero_le _⟩, hr⟩
  · rintro ⟨j, out⟩ ⟨⟨hj, ho⟩, he⟩
    dsimp only at hj ho he ⊢
    have hol : (out.map bR).length = out.length := List.length_map _
    cases hx : s[j]? with
    |none =>
      have hm := List.getElem?_eq_none_iff.1 hx
      rw [quo_none out hx] at he
      rw [← he]
      repeat' (
        (conv => whnf)
        first
          |((try ((first | apply eN | apply eI | apply eT | apply eC); (conv => whnf))); (apply sD); (focus ((first | (intro hc; have hc0 := hc; (try simp only [SPLT] at hc); (try refine and0 ?_)) | skip); first | exact sideG)))
          |((with_reducible apply CallO.go); (conv => whnf); apply sD; (focus first | (apply giveso_g (want_sem _ _ _ _ _ _); all_goals exact preO)))
          |((first | apply dG | apply kB); kernel_rfl)
          |(first | apply rR | apply rE | apply rH)
          | ((apply cD) <;> intro hb <;> (try simp only [SPLT] at hb) <;> (try first | exact noB)))
      all_goals try exact false
      exact finR
    |some c =>
      have hlt := (gLt hx)
      have hcd := getD_some hx
      by_cases h34 : c = 34
      · subst h34
        rw [quo_34 out hx] at he
        rw [← he]
        dsimp only
        simp only [Int.natCast_add, Int.natCast_one]
        repeat' (
          (conv => whnf)
          first
            |((try ((first | apply eN | apply eI | apply eT | apply eC); (conv => whnf))); (apply sD); (focus ((first | (intro hc; have hc0 := hc; (try simp only [SPLT] at hc); (try refine and0 ?_)) | skip); first | exact sideG)))
            |((with_reducible apply CallO.go); (conv => whnf); apply sD; (focus first | (apply giveso_g (want_sem _ _ _ _ _ _); all_goals exact preO)))
            |((first | apply dG | apply kB); kernel_rfl)
            |(first | apply rR | apply rE | apply rH)
            | ((apply cD) <;> intro hb <;> (try simp only [SPLT] at hb) <;> (try first | exact noB | ((exfalso; rw [hcd] at hb; simp at hb; done); done))))
        all_goals try exact false
        exact finR
      · have n34 : (c.toNat : Int) ≠ 34 := fun e => h34 (UInt8.toNat_inj.1 (by show c.toNat = 34; omega))
        by_cases h92 : c = 92
        · subst h92
          cases hy : s[j + 1]? with
          |none =>
            have hm2 := List.getElem?_eq_none_iff.1 hy
            rw [quo_92n out hx hy] at he
            rw [← he]
            dsimp only
            simp only [Int.natCast_add, Int.natCast_one]
            repeat' (
              (conv => whnf)
              first
                |((try ((first | apply eN | apply eI | apply eT | apply eC); (conv => whnf))); (apply sD); (focus ((first | (intro hc; have hc0 := hc; (try simp only [SPLT] at hc); (try refine and0 ?_)) | skip); first | exact sideG)))
                |((with_reducible apply CallO.go); (conv => whnf); apply sD; (focus first | (apply giveso_g (want_sem _ _ _ _ _ _); all_goals exact preO)))
                |((first | apply dG | apply kB); kernel_rfl)
                |(first | apply rR | apply rE | apply rH)
                | ((apply cD) <;> intro hb <;> (try simp only [SPLT] at hb) <;> (try first | exact noB | ((exfalso; rw [hcd] at hb; simp at hb; done); done) | ((exfalso; simp at hb; omega); done))))
            all_goals try exact false
            exact finR
          |some d =>
            have hlt2 := (gLt hy)
            have hdd : s.getD (((j : Int) + 1).toNat) 0 = d := by rw [show ((j : Int) + 1).toNat = j + 1 by omega, List.getD_eq_getElem?_getD, hy]; rfl
            by_cases hd : d = 34 ∨ d = 92
            · rw [quo_92 out hx hy hd] at he
              have hdn : (d.toNat : Int) = 34 ∨ (d.toNat : Int) = 92 := by rcases hd with rfl | rfl; · exact .inl rfl
                                                                           · exact .inr rfl
              repeat' (
                (conv => whnf)
                first
                  |((try ((first | apply eN | apply eI | apply eT | apply eC); (conv => whnf))); (apply sD); (focus ((first | (intro hc; have hc0 := hc; (try simp only [SPLT] at hc); (try refine and0 ?_)) | skip); first | exact sideG)))
                  |((with_reducible apply CallO.go); (conv => whnf); apply sD; (focus first | (apply giveso_g (want_sem _ _ _ _ _ _); all_goals exact preO)))
                  |((first | apply dG | apply kB); kernel_rfl)
                  |(first | apply rR | apply rE | apply rH)
                  | ((apply cD) <;> intro hb <;> (try simp only [SPLT] at hb) <;> (try first | exact noB | ((exfalso; rw [hcd] at hb; simp at hb; done); done) | ((exfalso; rw [hdd] at hb; omega); done))))
              all_goals try exact false
              refine ⟨(j + 2, out ++ [d]), ⟨⟨by dsimp only; omega, by rw [List.length_append]; dsimp only [List.length_singleton]; omega⟩, he⟩, by dsimp only; omega, ?_⟩
              (conv => whnf)
              refine ⟨?_, by rfl⟩
              repeat' ((conv => whnf); first | exact endF | (exact DLe.of_eq (by show D.sl 1 1 (out.map bR ++ [[D.int .u8 ((s.getD (((j : Int) + 1).toNat) 0).toNat)]]) = _; rw [hdd]; exact congrArg (D.sl 1 1) (bR_snoc out d))) | (exact DLe.of_eq (by congr 1; omega)) | exact endF2 | with_reducible apply dC)
            · rw [quo_92x out hx hy hd] at he
              rw [← he]
              dsimp only
              simp only [Int.natCast_add, Int.natCast_one]
              have hdn : (d.toNat : Int) ≠ 34 ∧ (d.toNat : Int) ≠ 92 := ⟨fun e => hd (.inl (UInt8.toNat_inj.1 (by show d.toNat = 34; omega))), fun e => hd (.inr (UInt8.toNat_inj.1 (by show d.toNat = 92; omega)))⟩
              repeat' (
                (conv => whnf)
                first
                  |((try ((first | apply eN | apply eI | apply eT | apply eC); (conv => whnf))); (apply sD); (focus ((first | (intro hc; have hc0 := hc; (try simp only [SPLT] at hc); (try refine and0 ?_)) | skip); first | exact sideG)))
                  |((with_reducible apply CallO.go); (conv => whnf); apply sD; (focus first | (apply giveso_g (want_sem _ _ _ _ _ _); all_goals exact preO)))
                  |((first | apply dG | apply kB); kernel_rfl)
                  |(first | apply rR | apply rE | apply rH)
                  | ((apply cD) <;> intro hb <;> (try simp only [SPLT] at hb) <;> (try first | exact noB | ((exfalso; rw [hcd] at hb; simp at hb; done); done) | ((exfalso; rw [hdd] at hb; omega); done))))
              all_goals try exact false
              exact finR
        · have n92 : (c.toNat : Int) ≠ 92 := fun e => h92 (UInt8.toNat_inj.1 (by show c.toNat = 92; omega))
          rw [quo_c out hx h34 h92] at he
          repeat' (
            (conv => whnf)
            first
              |((try ((first | apply eN | apply eI | apply eT | apply eC); (conv => whnf))); (apply sD); (focus ((first | (intro hc; have hc0 := hc; (try simp only [SPLT] at hc); (try refine and0 ?_)) | skip); first | exact sideG)))
              |((with_reducible apply CallO.go); (conv => whnf); apply sD; (focus first | (apply giveso_g (want_sem _ _ _ _ _ _); all_goals exact preO)))
              |((first | apply dG | apply kB); kernel_rfl)
              |(first | apply rR | apply rE | apply rH)
              | ((apply cD) <;> intro hb <;> (try simp only [SPLT] at hb) <;> (try first | exact noB | ((exfalso; rw [hcd] at hb; omega); done))))
          all_goals try exact false
          refine ⟨(j + 1, out ++ [c]), ⟨⟨by dsimp only; omega, by rw [List.length_append]; dsimp only [List.length_singleton]; omega⟩, he⟩, by dsimp only; omega, ?_⟩
          (conv => whnf)
          refine ⟨?_, by rfl⟩
          repeat' ((conv => whnf); first | exact endF | (exact DLe.of_eq (by show D.sl 1 1 (out.map bR ++ [[D.int .u8 ((s.getD ((j : Int).toNat) 0).toNat)]]) = _; rw [hcd]; exact congrArg (D.sl 1 1) (bR_snoc out c))) | exact endF2 | with_reducible apply dC)
theorem quoted_t (s:Str) (q:Pl) (i:Nat) (h:wantS s [34] q=(i,true)) (hq:q.1≤s.length) (hs:s.length≤100000000):
  SemO Tryz.prog 70 (.obj (pC s q)) [] (.str []) (some (.obj (pC s (i,true)))):=by
 have hw:=want_sem s [34] q hq hs (by decide)
 rw [h] at hw
 unfold pC at hw ⊢
 dsimp only at hw
 refine sO [0,1000016,1000020,1000030,1000033,1000034,1000038,1000040,1000041,1000070] Tryz.func70 ?_
 repeat'((conv=>whnf);first|(try(first|apply eN|apply eI|apply eT|apply eC);conv=>whnf);apply sD;(focus(try intro hc;have hc0:=hc;(try simp only[SPLT]at hc);try refine and0 ?_);first|exact sideG)|((with_reducible apply CallO.go);(conv=>whnf);apply sD;(focus first|(apply giveso_g (hw);all_goals exact preO)))|(first|apply dG|apply kB);kernel_rfl|apply rR|apply rE|apply rH| (apply cD<;>intro hb<;>(try simp only[SPLT]at hb)<;>try exact noB))
 all_goals try exact false
 refine loop_go (M:=fun t=>mem t [0,1000016,1000020,1000030,1000033,1000034,1000038,1000040,1000041,1000070]) hT hM (fun x:Nat => [(0,.obj [.str s,.int .i64 i,.bool true]),(3,.nil)]) (fun x=>x=0) (fun x=>0) (0) ?_ ?_ ?_
 ·exact finF
 ·rfl
 ·rintro j rfl
  repeat'((conv=>whnf);first|(try(first|apply eN|apply eI|apply eT|apply eC);conv=>whnf);apply sD;(focus(try intro hc;have hc0:=hc;(try simp only[SPLT]at hc);try refine and0 ?_);first|exact sideG)|((with_reducible apply CallO.go);(conv=>whnf);apply sD;(focus first|(apply giveso_g (want_sem _ _ _ _ _ _);all_goals exact preO)))|(first|apply dG|apply kB);kernel_rfl|apply rR|apply rE|apply rH| (apply cD<;>intro hb<;>(try simp only[SPLT]at hb)<;>try exact noB))
  all_goals try exact false
  exact finR
theorem quotedP_sem (s:Str) (q:Pl) (hq:q.1≤s.length) (hs:s.length≤100000000):
  SemO Tryz.prog 70 (.obj (pC s q)) [] (.str (quoS s q).1) (some (.obj (pC s (quoS s q).2))):=by
 cases h:wantS s [34] q with
 |mk i b=>
  cases b with
  |true=>
   have e:quoS s q=([],(i,true)):=by unfold quoS;rw [h];exact if_pos rfl
   rw [e]
   exact quoted_t s q i h hq hs
  |false=>
   have e:quoS s q=quoQ s i []:=by unfold quoS quoQ;rw [h];exact if_neg (fun h=>by cases h)
   rw [e]
   exact quoted_f s q i h hq hs
end Go.Proofs.YtindehjiaknokaaGreatDoor
