/- Notes: what is wrong with one, and the walks of that. -/
import Derived.Test.YtindehjiaknokaaGreatDoorZ11
namespace Go.Proofs.YtindehjiaknokaaGreatDoor
set_option linter.unusedSimpArgs false
set_option linter.unusedVariables false
open Go.RowKit
set_option maxRecDepth 100000
set_option maxHeartbeats 1000000
def precl:Str := [80,82,69,67,76]
theorem int_there {g:Nat} (hG:GB g=some intO) {S:Sig} {w:World} (h:GL S w):∃ n,w.cell? ⟨g,0,none⟩=some (.int .i64 n):=by
 obtain ⟨_,o,h2,cs,e,fz,n,rfl,hn⟩:=h g _ hG
 exact ⟨n,by rw [cell_of_row w g 0 cs e fz h2];exact hn⟩
theorem contains_sem (sub:Str):Sem Tryz.prog 71 [.str precl,.str sub] (.bool (Lib.contains precl sub)):=
 ⟨inferInstance,rfl,fun S w vs hw hl hr=>by
  obtain rfl:=vals_eq (us := [.string ⟨precl.toArray⟩,.string ⟨sub.toArray⟩]) (q:=fun i=>.slot i) rfl hl hr
  obtain ⟨m,hm⟩:=int_there (g:=0) rfl hw.gl
  refine (Tryz.strings_Contains ⟨precl.toArray⟩ ⟨sub.toArray⟩ m w (by decide) hm).mono fun e w' ⟨he,hx⟩ => ?_
  subst hx
  exact ⟨_,S,he,hw,Trans.refl S _,.fz (.bool _)⟩⟩
end Go.Proofs.YtindehjiaknokaaGreatDoor
