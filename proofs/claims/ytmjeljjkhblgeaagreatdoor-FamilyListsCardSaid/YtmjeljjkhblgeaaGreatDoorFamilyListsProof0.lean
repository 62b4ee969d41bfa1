/- What is proved: the given statement Rows.FamilyListsCardSaid: at every input the law FamilyLists returns true and leaves what its arguments reach as it was. Conditions: none beyond those that the given row itself states. The road: the functions that the law reaches are turned into plain functions over data, which the kernel checks; the plain law is proved of those. -/
import Derived.Test.YtmjeljjkhblgeaaGreatDoorRows
import Derived.Test.YtmjeljjkhblgeaaGreatDoorCards
import Derived.Test.YtmjeljjkhblgeaaGreatDoorTie
import Derived.SevenTiedAt
import Derived.Lay
import Derived.LaidSub
import Derived.Lib.LaidTab
import Derived.Test.YtmjeljjkhblgeaaGreatDoorChecked
import Derived.Test.YtmjeljjkhblgeaaGreatDoorFamilyListsDec
import Derived.Test.YtmjeljjkhblgeaaGreatDoorFamilyListsPlain
import Derived.KernelRfl
import Derived.JoinedOf
import Derived.Handed
set_option linter.unusedVariables false
set_option linter.unusedSectionVars false
set_option linter.unusedSimpArgs false
namespace Go.Proofs.YtmjeljjkhblgeaaGreatDoor.familyLists
open Go.AE Fl
theorem own:ownKnob Tryz.prog.godebug=none:=by kernel_rfl
theorem v0 [BX]:Af (EF m0) (DZ ts):=(fun G=>Af.cons (U:=If) (uI G) (w0 G)) (DZ ts)
theorem v1 [BX]:Af (EF m1) (DZ ts):=Af.decL (okE _ _) v0 (d:=d0 E0) (fun x=>FN lt rfl x) c0 rfl (by kernel_rfl)
theorem readable:∀t∈Tryz.f3.params.toList,Tryz.prog.readableRec t=true∧t<Tryz.prog.types.size:=by
 have h:(Tryz.f3.params.toList.all fun t=>Tryz.prog.readableRec t&&decide (t<Tryz.prog.types.size))=true:=by kernel_rfl
 intro t ht;have q:=List.all_eq_true.mp h t ht;rw [Bool.and_eq_true,decide_eq_true_eq] at q;exact q
theorem says (H:Type) (ds:List (DataW H)) (hl:ds.length=Tryz.f3.params.toList.length):Rows.familyListsSpec.fn H ds={results:=[.lit (.bool true)],args:=ds}:=by
 have e:Tryz.f3.params.toList.length=1:=by kernel_rfl
 rw [e] at hl;rcases ds with _|⟨d0,_|⟨d1,r⟩⟩<;>first|rfl | (simp only [List.length_cons,List.length_nil] at hl;omega)
theorem plain [BX] (xs:List D) (h:M4 Tryz.prog Tryz.f3.params.toList xs):DZ ts 1 (.row (.int 0::xs))=.row [.int 1,.bool true]:=by
 obtain ⟨hl,hc⟩:=TF (ks:=[.int .i64]) h (by kernel_rfl)
 match xs,hl,hc with
 |[v0],_,hc=>
  obtain ⟨n,hn⟩:=(show Hg (Env.of Tryz.prog).kinds 9 (.int .i64) v0 from hc 0 _ rfl).toI
  subst hn;exact law n
theorem V3 {W:World} (hx:laidMetH Tryz.prog Rows.familyListsRow.laid W):Ff (DI W):=by
 rw [MakeChecks.laidMetH_plain _ _ _ (by kernel_rfl)] at hx
 have h:=hx.filter fun x=>x.1==(Rows.familyListsRow.laid.map (fun y=>y.1)).getD 2 ""
 have e:(Rows.familyListsRow.laid.filter fun x=>x.1==(Rows.familyListsRow.laid.map (fun y=>y.1)).getD 2 "")=[((Rows.familyListsRow.laid.map (fun y=>y.1)).getD 2 "",Lib.tabData .u64 RI)]:=by kernel_rfl
 rw [e] at h;have t:=Lib.tabIs_of_head (g:=3) (t:=368) (e:=311) (n:=20) (by kernel_rfl) (by kernel_rfl) (by kernel_rfl) (by kernel_rfl) (by kernel_rfl) (by kernel_rfl) h
 exact VM fun i hi=>t.cell (by kernel_rfl) i hi
theorem lifted (os:Os) (started:os.Started) (H:Type) (enc:TypeId×Value→H) :
  ReturnsInHanded {} Tryz.checked os 3 .any (fun w args=>(Rows.familyListsSpec.pre enc Tryz.prog Tryz.f3 Rows.familyListsRow.domain false w args∧laidMetH Tryz.prog Rows.familyListsRow.laid w)∧sizedMet enc Tryz.prog Tryz.f3 (OpenSpec.ofChange Rows.familyListsSpec) false w args) (Rows.familyListsSpec.post enc Tryz.prog Tryz.f3 false true false false):=by
 obtain ⟨inst⟩:=T7
 exact Rp (X:=fun w _=>laidMetH Tryz.prog Rows.familyListsRow.laid w) (fun _ _ _ hh h=>h.of_heap hh) (C:=Tryz.checked) (d:=d1 E0) (T:=t1) (keys:=[5]) (N:=20000) (tb:=4) (L:=[]) own started (by kernel_rfl) Tryz.func3
  (ChangeSpec.witness_shaped (enc:=enc) (C:=Tryz.checked) (os:=os) (X:=fun w _=>laidMetH Tryz.prog Rows.familyListsRow.laid w) false (World.laidAll Tryz.prog os Rows.familyListsRow.laid) #[.int .i64 0] 8 (World.laidAll_os _ _ _)
   (World.shaped_of_ZipB (by kernel_rfl) (by kernel_rfl)) (by kernel_rfl) (by kernel_rfl) (by kernel_rfl)
   (by rw [MakeChecks.laidMetH_plain _ _ _ (by kernel_rfl)];exact laidMet_laidAll _ (by kernel_rfl) (by kernel_rfl)))
  (by kernel_rfl) readable rfl (says H) (by kernel_rfl) (by kernel_rfl) (okE _ _) v1 (fun x=>FN lt rfl x) c1.chk (by kernel_rfl) rfl (by kernel_rfl) plain (fun W _ hx=>V3 hx)
end Go.Proofs.YtmjeljjkhblgeaaGreatDoor.familyLists


