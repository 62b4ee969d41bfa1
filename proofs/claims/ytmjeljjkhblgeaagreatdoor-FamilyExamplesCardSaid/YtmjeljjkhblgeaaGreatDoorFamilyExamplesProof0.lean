/- What is proved: the given statement Rows.FamilyExamplesCardSaid: at every input the law FamilyExamples returns true and leaves what its arguments reach as it was. Conditions: none beyond those that the given row itself states. The road: the functions that the law reaches are turned into plain functions over data, which the kernel checks; the plain law is proved of those. -/
import Derived.Test.YtmjeljjkhblgeaaGreatDoorRows
import Derived.Test.YtmjeljjkhblgeaaGreatDoorCards
import Derived.Test.YtmjeljjkhblgeaaGreatDoorTie
import Derived.SevenTiedAt
import Derived.Lay
import Derived.LaidSub
import Derived.Lib.LaidTab
import Derived.Test.YtmjeljjkhblgeaaGreatDoorChecked
import Derived.Test.YtmjeljjkhblgeaaGreatDoorFamilyExamplesDec
import Derived.Test.YtmjeljjkhblgeaaGreatDoorFamilyExamplesPlain
import Derived.KernelRfl
import Derived.JoinedOf
import Derived.Handed
set_option linter.unusedVariables false
set_option linter.unusedSectionVars false
set_option linter.unusedSimpArgs false
namespace Go.Proofs.YtmjeljjkhblgeaaGreatDoor.familyExamples
open Go.AE Fx
theorem own:ownKnob Tryz.prog.godebug=none:=by kernel_rfl
theorem v0 [Cq]:Ad (EF m0) (FW ts):=(fun G=>(Ad.cons (U:=AZ) (mH G) (Ad.cons (U:=AZ) (qZ G) (Ad.cons (U:=AZ) (xo G) (Ad.cons (U:=AZ) (xB G) (Ad.cons (U:=AZ) (yE G) (Ad.cons (U:=AZ) (uy G) (Ad.cons (U:=AZ) (lI G) (Ad.cons (U:=AZ) (va G) (Ad.cons (U:=AZ) (Aad G) (Ad.cons (U:=AZ) (uz G) (Ad.cons (U:=AZ) (ui G) (Ad.cons (U:=AZ) (eh G) (Ad.cons (U:=AZ) (pZ G) (Ad.cons (U:=AZ) (vn G) (Ad.cons (U:=AZ) (rO G) (Ad.cons (U:=AZ) (wO G) (Ad.cons (U:=AZ) (kP G) (Ad.cons (U:=AZ) (yM G) (Ad.cons (U:=AZ) (wI G) (Ad.cons (U:=AZ) (rC G) (Ad.cons (U:=AZ) (tX G) (Ad.cons (U:=AZ) (jY G) (Ad.cons (U:=AZ) (yS G) (Ad.cons (U:=AZ) (wx G) (Ad.cons (U:=AZ) (zV G) (Ad.cons (U:=AZ) (tM G) (Ad.cons (U:=AZ) (i9 G) (Ad.cons (U:=AZ) (Abo G) (Ad.cons (U:=AZ) (pS G) (Ad.cons (U:=AZ) (xU G) (Ad.cons (U:=AZ) (uW G) (Ad.cons (U:=AZ) (pK G) (Ad.cons (U:=AZ) (wW G) (Ad.cons (U:=AZ) (tn G) (Ad.cons (U:=AZ) (tR G) (Ad.cons (U:=AZ) (Aaw G) (Ad.cons (U:=AZ) (pA G) (Ad.cons (U:=AZ) (tF G) (Ad.cons (U:=AZ) (Aax G) (Ad.cons (U:=AZ) (zw G) (Ad.cons (U:=AZ) (zG G) (Ad.cons (U:=AZ) (yQ G) (w0 G)))))))))))))))))))))))))))))))))))))))))):Ad (Env.ofS Tryz.prog [R6,af,Vd,cB,VB,Xl,R0,Xo,UK,X2,Vl,Sb,W3,U4,Za,Uh,Sy,WN,U6,aX,Va,Sz,Yg,VI,Y8,Vq,S4,cJ,UQ,aw,UV,SX,Yv,Ub,bH,VS,SW,Yr,UY,Zw,U0,UT] []) G)) (FW ts)
theorem readable:∀t∈Tryz.f4.params.toList,Tryz.prog.readableRec t=true∧t<Tryz.prog.types.size:=by
 have h:(Tryz.f4.params.toList.all fun t=>Tryz.prog.readableRec t&&decide (t<Tryz.prog.types.size))=true:=by kernel_rfl
 intro t ht;have q:=List.all_eq_true.mp h t ht;rw [Bool.and_eq_true,decide_eq_true_eq] at q;exact q
theorem says (H:Type) (ds:List (DataW H)) (hl:ds.length=Tryz.f4.params.toList.length):Rows.familyExamplesSpec.fn H ds={results:=[.lit (.bool true)],args:=ds}:=by
 have e:Tryz.f4.params.toList.length=2:=by kernel_rfl
 rw [e] at hl;rcases ds with _|⟨d0,_|⟨d1,_|⟨d2,r⟩⟩⟩<;>first|rfl | (simp only [List.length_cons,List.length_nil] at hl;omega)
theorem plain [Cq] (xs:List D) (h:Jg Tryz.prog Tryz.f4.params.toList xs):FW ts 0 (.row (.int 0::xs))=.row [.int 1,.bool true]:=by
 obtain ⟨hl,hc⟩:=TC (ks:=[.int .u8,.str]) h (by kernel_rfl)
 match xs,hl,hc,h with
 |[v0,v1],_,hc,h=>
  obtain ⟨n,hn⟩:=(show G8 (Env.of Tryz.prog).kinds 9 (.int .u8) v0 from hc 0 _ rfl).toI
  subst hn;have hr:=rng h (by kernel_rfl)
  exact law n v1 hr.1 hr.2
theorem Wz {W:World} (hx:laidMetH Tryz.prog Rows.familyExamplesRow.laid W):E4 (DC W):=by
 rw [MakeChecks.laidMetH_plain _ _ _ (by kernel_rfl)] at hx
 have h:=hx.filter fun x=>x.1==(Rows.familyExamplesRow.laid.map (fun y=>y.1)).getD 2 ""
 have e:(Rows.familyExamplesRow.laid.filter fun x=>x.1==(Rows.familyExamplesRow.laid.map (fun y=>y.1)).getD 2 "")=[((Rows.familyExamplesRow.laid.map (fun y=>y.1)).getD 2 "",Lib.tabData .u64 Rx)]:=by kernel_rfl
 rw [e] at h;have t:=Lib.tabIs_of_head (g:=3) (t:=368) (e:=311) (n:=20) (by kernel_rfl) (by kernel_rfl) (by kernel_rfl) (by kernel_rfl) (by kernel_rfl) (by kernel_rfl) h
 exact Wi fun i hi=>t.cell (by kernel_rfl) i hi
theorem lifted (os:Os) (started:os.Started) (H:Type) (enc:TypeId×Value→H) :
  ReturnsInHanded {} Tryz.checked os 4 .any (fun w args=>(Rows.familyExamplesSpec.pre enc Tryz.prog Tryz.f4 Rows.familyExamplesRow.domain false w args∧laidMetH Tryz.prog Rows.familyExamplesRow.laid w)∧sizedMet enc Tryz.prog Tryz.f4 (OpenSpec.ofChange Rows.familyExamplesSpec) false w args) (Rows.familyExamplesSpec.post enc Tryz.prog Tryz.f4 false true false false):=by
 obtain ⟨inst⟩:=T5
 exact Rg (X:=fun w _=>laidMetH Tryz.prog Rows.familyExamplesRow.laid w) (fun _ _ _ hh h=>h.of_heap hh) (C:=Tryz.checked) (d:=d0 E0) (T:=t0) (keys:=[]) (N:=20000) (tb:=4) (L:=[]) own started (by kernel_rfl) Tryz.func4
  (ChangeSpec.witness_shaped (enc:=enc) (C:=Tryz.checked) (os:=os) (X:=fun w _=>laidMetH Tryz.prog Rows.familyExamplesRow.laid w) false (World.laidAll Tryz.prog os Rows.familyExamplesRow.laid) #[.int .u8 0,.string .empty] 8 (World.laidAll_os _ _ _)
   (World.shaped_of_ZipB (by kernel_rfl) (by kernel_rfl)) (by kernel_rfl) (by kernel_rfl) (by kernel_rfl)
   (by rw [MakeChecks.laidMetH_plain _ _ _ (by kernel_rfl)];exact laidMet_laidAll _ (by kernel_rfl) (by kernel_rfl)))
  (by kernel_rfl) readable rfl (says H) (by kernel_rfl) (by kernel_rfl) (okE _ _) v0 (fun x=>GQ lt rfl x) c0.chk (by kernel_rfl) rfl (by kernel_rfl) plain (fun W _ hx=>Wz hx)
end Go.Proofs.YtmjeljjkhblgeaaGreatDoor.familyExamples


