/- What is proved: the given statement Rows.FamilyDefinesCardSaid: at every input the law FamilyDefines returns true and leaves what its arguments reach as it was. Conditions: none beyond those that the given row itself states. The road: the functions that the law reaches are turned into plain functions over data, which the kernel checks; the plain law is proved of those. -/
import Derived.Test.YtmjeljjkhblgeaaGreatDoorRows
import Derived.Test.YtmjeljjkhblgeaaGreatDoorCards
import Derived.Test.YtmjeljjkhblgeaaGreatDoorTie
import Derived.SevenTiedAt
import Derived.Lay
import Derived.LaidSub
import Derived.Lib.LaidTab
import Derived.Test.YtmjeljjkhblgeaaGreatDoorChecked
import Derived.Test.YtmjeljjkhblgeaaGreatDoorFamilyDefinesDecA
import Derived.Test.YtmjeljjkhblgeaaGreatDoorFamilyDefinesPlain
import Derived.KernelRfl
import Derived.JoinedOf
import Derived.Handed
set_option linter.unusedVariables false
set_option linter.unusedSectionVars false
set_option linter.unusedSimpArgs false
namespace Go.Proofs.YtmjeljjkhblgeaaGreatDoor.familyDefines
open Go.AE Fdm
theorem own:ownKnob Tryz.prog.godebug=none:=by kernel_rfl
theorem v0 [CP]:Ai (EF m0) (Hf ts):=(fun G=>(Ai.cons (U:=AB) (w42 G) (Ai.cons (U:=AB) (w43 G) (Ai.cons (U:=AB) (w64 G) (Ai.cons (U:=AB) (w65 G) (Ai.cons (U:=AB) (w66 G) (Ai.cons (U:=AB) (w67 G) (Ai.cons (U:=AB) (w68 G) (Ai.cons (U:=AB) (w69 G) (Ai.cons (U:=AB) (w70 G) (Ai.cons (U:=AB) (w83 G) (Ai.cons (U:=AB) (w84 G) (Ai.cons (U:=AB) (Avt G) (Ai.cons (U:=AB) (AA4 G) (Ai.cons (U:=AB) (AA6 G) (Ai.cons (U:=AB) (Atl G) (Ai.cons (U:=AB) (Avr G) (Ai.cons (U:=AB) (Azt G) (Ai.cons (U:=AB) (ABz G) (Ai.cons (U:=AB) (Aoa G) (Ai.cons (U:=AB) (Adn G) (Ai.cons (U:=AB) (At2 G) (Ai.cons (U:=AB) (Au7 G) (Ai.cons (U:=AB) (Ay2 G) (Ai.cons (U:=AB) (Ay6 G) (Ai.cons (U:=AB) (Av9 G) (Ai.cons (U:=AB) (Ayj G) (Ai.cons (U:=AB) (ABv G) (Ai.cons (U:=AB) (An1 G) (Ai.cons (U:=AB) (Ab4 G) (Ai.cons (U:=AB) (AAt G) (Ai.cons (U:=AB) (AAn G) (Ai.cons (U:=AB) (Ay9 G) (Ai.cons (U:=AB) (Au8 G) (Ai.cons (U:=AB) (Ate G) (Ai.cons (U:=AB) (Aua G) (Ai.cons (U:=AB) (At8 G) (Ai.cons (U:=AB) (Amv G) (Ai.cons (U:=AB) (x6 G) (Ai.cons (U:=AB) (Awy G) (Ai.cons (U:=AB) (Ats G) (Ai.cons (U:=AB) (Ax6 G) (Ai.cons (U:=AB) (AAw G) (Ai.cons (U:=AB) (Au4 G) (Ai.cons (U:=AB) (AAs G) (Ai.cons (U:=AB) (ABd G) (Ai.cons (U:=AB) (Ajn G) (Ai.cons (U:=AB) (Aak G) (Ai.cons (U:=AB) (Awc G) (Ai.cons (U:=AB) (ABp G) (Ai.cons (U:=AB) (Az5 G) (Ai.cons (U:=AB) (Azr G) (Ai.cons (U:=AB) (As6 G) (Ai.cons (U:=AB) (Avx G) (Ai.cons (U:=AB) (Awl G) (Ai.cons (U:=AB) (Ah0 G) (Ai.cons (U:=AB) (Ays G) (Ai.cons (U:=AB) (x5 G) (Ai.cons (U:=AB) (AAm G) (Ai.cons (U:=AB) (Avj G) (Ai.cons (U:=AB) (AA7 G) (Ai.cons (U:=AB) (Av7 G) (Ai.cons (U:=AB) (Axe G) (Ai.cons (U:=AB) (Aur G) (Ai.cons (U:=AB) (Ayf G) (Ai.cons (U:=AB) (Ajo G) (Ai.cons (U:=AB) (Avu G) (Ai.cons (U:=AB) (Adj G) (Ai.cons (U:=AB) (Avp G) (Ai.cons (U:=AB) (Auu G) (Ai.cons (U:=AB) (Aw6 G) (Ai.cons (U:=AB) (Azl G) (Ai.cons (U:=AB) (Atp G) (Ai.cons (U:=AB) (Atb G) (Ai.cons (U:=AB) (Axv G) (Ai.cons (U:=AB) (AAy G) (Ai.cons (U:=AB) (Atc G) (w0 G)))))))))))))))))))))))))))))))))))))))))))))))))))))))))))))))))))))))))))):Ai (Env.ofS Tryz.prog [o42,o43,o64,o65,o66,o67,o68,o69,o70,o83,o84,m6,yQ,lW,zO,yt,kk,Ac7,f6,aF,kE,xZ,lS,Aa0,Aad,mP,zA,gI,cu,md,Aci,mQ,Ac5,Aco,kx,Act,j7,cE,lm,yg,kN,yG,Abr,mU,Abf,dM,aK,kD,Abw,mL,yo,xN,l9,zZ,jM,mh,aW,lJ,yx,m9,zI,yL,nf,Aaj,cY,ku,bI,kn,yn,mg,Ac3,Ads,lV,Adz,kT,ko] []) G)) (Hf ts)
theorem readable:∀t∈Tryz.f5.params.toList,Tryz.prog.readableRec t=true∧t<Tryz.prog.types.size:=by
 have h:(Tryz.f5.params.toList.all fun t=>Tryz.prog.readableRec t&&decide (t<Tryz.prog.types.size))=true:=by kernel_rfl
 intro t ht;have q:=List.all_eq_true.mp h t ht;rw [Bool.and_eq_true,decide_eq_true_eq] at q;exact q
theorem says (H:Type) (ds:List (DataW H)) (hl:ds.length=Tryz.f5.params.toList.length):Rows.familyDefinesSpec.fn H ds={results:=[.lit (.bool true)],args:=ds}:=by
 have e:Tryz.f5.params.toList.length=2:=by kernel_rfl
 rw [e] at hl;rcases ds with _|⟨d0,_|⟨d1,_|⟨d2,r⟩⟩⟩<;>first|rfl | (simp only [List.length_cons,List.length_nil] at hl;omega)
theorem plain [CP] (xs:List D) (h:MW Tryz.prog Tryz.f5.params.toList xs):Hf ts 0 (.row (.int 0::xs))=.row [.int 1,.bool true]:=by
 obtain ⟨hl,hc⟩:=iA (b:=[.int .u8,.str]) h (by kernel_rfl)
 match xs,hl,hc,h with
 |[v0,v1],_,hc,h=>
  obtain ⟨n,hn⟩:=(show Jf (Env.of Tryz.prog).kinds 9 (.int .u8) v0 from hc 0 _ rfl).toI
  subst hn;have hr:=rng h (by kernel_rfl)
  exact law n v1 hr.1 hr.2
theorem xW {W:World} (hx:laidMetH Tryz.prog Rows.familyDefinesRow.laid W):F7 (Ej W):=by
 rw [MakeChecks.laidMetH_plain _ _ _ (by kernel_rfl)] at hx
 have h:=hx.filter fun x=>x.1==(Rows.familyDefinesRow.laid.map (fun y=>y.1)).getD 2 ""
 have e:(Rows.familyDefinesRow.laid.filter fun x=>x.1==(Rows.familyDefinesRow.laid.map (fun y=>y.1)).getD 2 "")=[((Rows.familyDefinesRow.laid.map (fun y=>y.1)).getD 2 "",Lib.tabData .u64 b9)]:=by kernel_rfl
 rw [e] at h;have t:=Lib.tabIs_of_head (g:=3) (t:=368) (e:=311) (n:=20) (by kernel_rfl) (by kernel_rfl) (by kernel_rfl) (by kernel_rfl) (by kernel_rfl) (by kernel_rfl) h
 exact xK fun i hi=>t.cell (by kernel_rfl) i hi
theorem lifted (os:Os) (started:os.Started) (H:Type) (enc:TypeId×Value→H) :
  ReturnsInHanded {} Tryz.checked os 5 .any (fun w args=>(Rows.familyDefinesSpec.pre enc Tryz.prog Tryz.f5 Rows.familyDefinesRow.domain false w args∧laidMetH Tryz.prog Rows.familyDefinesRow.laid w)∧sizedMet enc Tryz.prog Tryz.f5 (OpenSpec.ofChange Rows.familyDefinesSpec) false w args) (Rows.familyDefinesSpec.post enc Tryz.prog Tryz.f5 false true false false):=by
 obtain ⟨inst⟩:=jX
 exact bt (X:=fun w _=>laidMetH Tryz.prog Rows.familyDefinesRow.laid w) (fun _ _ _ hh h=>h.of_heap hh) (C:=Tryz.checked) (d:=d0 E0) (T:=t0) (keys:=[]) (N:=20000) (tb:=4) (L:=[]) own started (by kernel_rfl) Tryz.func5
  (ChangeSpec.witness_shaped (enc:=enc) (C:=Tryz.checked) (os:=os) (X:=fun w _=>laidMetH Tryz.prog Rows.familyDefinesRow.laid w) false (World.laidAll Tryz.prog os Rows.familyDefinesRow.laid) #[.int .u8 0,.string .empty] 8 (World.laidAll_os _ _ _)
   (World.shaped_of_ZipB (by kernel_rfl) (by kernel_rfl)) (by kernel_rfl) (by kernel_rfl) (by kernel_rfl)
   (by rw [MakeChecks.laidMetH_plain _ _ _ (by kernel_rfl)];exact laidMet_laidAll _ (by kernel_rfl) (by kernel_rfl)))
  (by kernel_rfl) readable rfl (says H) (by kernel_rfl) (by kernel_rfl) (okE _ _) v0 (fun x=>IC lt rfl x) c0.chk (by kernel_rfl) rfl (by kernel_rfl) plain (fun W _ hx=>xW hx)
end Go.Proofs.YtmjeljjkhblgeaaGreatDoor.familyDefines


