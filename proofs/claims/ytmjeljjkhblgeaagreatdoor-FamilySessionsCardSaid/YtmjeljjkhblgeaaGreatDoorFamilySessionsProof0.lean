/- What is proved: the given statement Rows.FamilySessionsCardSaid: at every input the law FamilySessions returns true and leaves what its arguments reach as it was. Conditions: none beyond those that the given row itself states. The road: the functions that the law reaches are turned into plain functions over data, which the kernel checks; the plain law is proved of those. -/
import Derived.Test.YtmjeljjkhblgeaaGreatDoorRows
import Derived.Test.YtmjeljjkhblgeaaGreatDoorCards
import Derived.Test.YtmjeljjkhblgeaaGreatDoorTie
import Derived.SevenTiedAt
import Derived.Lay
import Derived.LaidSub
import Derived.Lib.LaidTab
import Derived.Test.YtmjeljjkhblgeaaGreatDoorChecked
import Derived.Test.YtmjeljjkhblgeaaGreatDoorFamilySessionsDecA
import Derived.Test.YtmjeljjkhblgeaaGreatDoorFamilySessionsPlain
import Derived.KernelRfl
import Derived.JoinedOf
import Derived.Handed
set_option linter.unusedVariables false
set_option linter.unusedSectionVars false
set_option linter.unusedSimpArgs false
namespace Go.Proofs.YtmjeljjkhblgeaaGreatDoor.familySessions
open Go.AE Fs
theorem own:ownKnob Tryz.prog.godebug=none:=by kernel_rfl
theorem v0 [Cr]:Ad (EF m0) (FZ ts):=(fun G=>(Ad.cons (U:=Aw) (ua G) (Ad.cons (U:=Aw) (Xu G) (Ad.cons (U:=Aw) (Akg G) (Ad.cons (U:=Aw) (Anu G) (Ad.cons (U:=Aw) (Aax G) (Ad.cons (U:=Aw) (Aj6 G) (Ad.cons (U:=Aw) (Anw G) (Ad.cons (U:=Aw) (Aj8 G) (Ad.cons (U:=Aw) (Abn G) (Ad.cons (U:=Aw) (oA G) (Ad.cons (U:=Aw) (ag G) (Ad.cons (U:=Aw) (Asq G) (Ad.cons (U:=Aw) (Ako G) (Ad.cons (U:=Aw) (Aed G) (Ad.cons (U:=Aw) (Ae5 G) (Ad.cons (U:=Aw) (Arj G) (Ad.cons (U:=Aw) (Aga G) (Ad.cons (U:=Aw) (vB G) (Ad.cons (U:=Aw) (dY G) (Ad.cons (U:=Aw) (Ac2 G) (Ad.cons (U:=Aw) (Amz G) (Ad.cons (U:=Aw) (Anb G) (Ad.cons (U:=Aw) (Anq G) (Ad.cons (U:=Aw) (Aq9 G) (Ad.cons (U:=Aw) (Aco G) (Ad.cons (U:=Aw) (xz G) (Ad.cons (U:=Aw) (eQ G) (Ad.cons (U:=Aw) (Arx G) (Ad.cons (U:=Aw) (Abf G) (Ad.cons (U:=Aw) (Ao4 G) (Ad.cons (U:=Aw) (Ama G) (Ad.cons (U:=Aw) (App G) (Ad.cons (U:=Aw) (Ar7 G) (Ad.cons (U:=Aw) (lF G) (Ad.cons (U:=Aw) (d9 G) (Ad.cons (U:=Aw) (zK G) (Ad.cons (U:=Aw) (Aef G) (Ad.cons (U:=Aw) (zY G) (Ad.cons (U:=Aw) (Ac6 G) (Ad.cons (U:=Aw) (Abo G) (Ad.cons (U:=Aw) (Aa1 G) (Ad.cons (U:=Aw) (vo G) (Ad.cons (U:=Aw) (cA G) (Ad.cons (U:=Aw) (Aan G) (Ad.cons (U:=Aw) (Ag2 G) (Ad.cons (U:=Aw) (Ag4 G) (Ad.cons (U:=Aw) (Ad4 G) (Ad.cons (U:=Aw) (Ark G) (Ad.cons (U:=Aw) (Acc G) (Ad.cons (U:=Aw) (mz G) (Ad.cons (U:=Aw) (Akv G) (Ad.cons (U:=Aw) (fe G) (Ad.cons (U:=Aw) (Acf G) (Ad.cons (U:=Aw) (Ahx G) (Ad.cons (U:=Aw) (Aj3 G) (Ad.cons (U:=Aw) (Adq G) (Ad.cons (U:=Aw) (Amh G) (Ad.cons (U:=Aw) (yX G) (Ad.cons (U:=Aw) (ql G) (Ad.cons (U:=Aw) (Af8 G) (Ad.cons (U:=Aw) (fw G) (Ad.cons (U:=Aw) (Ap6 G) (Ad.cons (U:=Aw) (Ack G) (Ad.cons (U:=Aw) (Ars G) (Ad.cons (U:=Aw) (Aq4 G) (Ad.cons (U:=Aw) (Aa4 G) (Ad.cons (U:=Aw) (Ahb G) (Ad.cons (U:=Aw) (Ae1 G) (Ad.cons (U:=Aw) (Anr G) (w0 G))))))))))))))))))))))))))))))))))))))))))))))))))))))))))))))))))))):Ad (Env.ofS Tryz.prog [Ss,RE,UI,aI,UD,Y2,Xt,VA,dh,TH,Rm,Vm,Zr,UB,dS,fG,Vb,Tt,Rw,U5,eX,V6,W8,be,Wk,Tp,R5,UE,cu,UJ,XW,dt,Vq,Sl,RV,VE,Yd,Wb,ZQ,d6,Vj,Uy,RS,VT,ff,We,eH,Yq,U1,T4,Vw,Rf,U4,dR,Vu,Zi,Yt,Vp,Tf,Vl,Q7,V1,aL,VS,ZR,ZB,Vn,UG,V9] []) G)) (FZ ts)
theorem readable:∀t∈Tryz.f6.params.toList,Tryz.prog.readableRec t=true∧t<Tryz.prog.types.size:=by
 have h:(Tryz.f6.params.toList.all fun t=>Tryz.prog.readableRec t&&decide (t<Tryz.prog.types.size))=true:=by kernel_rfl
 intro t ht;have q:=List.all_eq_true.mp h t ht;rw [Bool.and_eq_true,decide_eq_true_eq] at q;exact q
theorem says (H:Type) (ds:List (DataW H)) (hl:ds.length=Tryz.f6.params.toList.length):Rows.familySessionsSpec.fn H ds={results:=[.lit (.bool true)],args:=ds}:=by
 have e:Tryz.f6.params.toList.length=2:=by kernel_rfl
 rw [e] at hl;rcases ds with _|⟨d0,_|⟨d1,_|⟨d2,r⟩⟩⟩<;>first|rfl | (simp only [List.length_cons,List.length_nil] at hl;omega)
theorem plain [Cr] (xs:List D) (h:Jk Tryz.prog Tryz.f6.params.toList xs):FZ ts 0 (.row (.int 0::xs))=.row [.int 1,.bool true]:=by
 obtain ⟨hl,hc⟩:=TZ (ks:=[.int .u8,.str]) h (by kernel_rfl)
 match xs,hl,hc,h with
 |[v0,v1],_,hc,h=>
  obtain ⟨n,hn⟩:=(show Hb (Env.of Tryz.prog).kinds 9 (.int .u8) v0 from hc 0 _ rfl).toI
  subst hn;have hr:=rng h (by kernel_rfl)
  exact law n v1 hr.1 hr.2
theorem Xa {W:World} (hx:laidMetH Tryz.prog Rows.familySessionsRow.laid W):E6 (DF W):=by
 rw [MakeChecks.laidMetH_plain _ _ _ (by kernel_rfl)] at hx
 have h:=hx.filter fun x=>x.1==(Rows.familySessionsRow.laid.map (fun y=>y.1)).getD 2 ""
 have e:(Rows.familySessionsRow.laid.filter fun x=>x.1==(Rows.familySessionsRow.laid.map (fun y=>y.1)).getD 2 "")=[((Rows.familySessionsRow.laid.map (fun y=>y.1)).getD 2 "",Lib.tabData .u64 RM)]:=by kernel_rfl
 rw [e] at h;have t:=Lib.tabIs_of_head (g:=3) (t:=368) (e:=311) (n:=20) (by kernel_rfl) (by kernel_rfl) (by kernel_rfl) (by kernel_rfl) (by kernel_rfl) (by kernel_rfl) h
 exact WR fun i hi=>t.cell (by kernel_rfl) i hi
theorem lifted (os:Os) (started:os.Started) (H:Type) (enc:TypeId×Value→H) :
  ReturnsInHanded {} Tryz.checked os 6 .any (fun w args=>(Rows.familySessionsSpec.pre enc Tryz.prog Tryz.f6 Rows.familySessionsRow.domain false w args∧laidMetH Tryz.prog Rows.familySessionsRow.laid w)∧sizedMet enc Tryz.prog Tryz.f6 (OpenSpec.ofChange Rows.familySessionsSpec) false w args) (Rows.familySessionsSpec.post enc Tryz.prog Tryz.f6 false true false false):=by
 obtain ⟨inst⟩:=Uu
 exact Rs (X:=fun w _=>laidMetH Tryz.prog Rows.familySessionsRow.laid w) (fun _ _ _ hh h=>h.of_heap hh) (C:=Tryz.checked) (d:=d0 E0) (T:=t0) (keys:=[]) (N:=20000) (tb:=4) (L:=[]) own started (by kernel_rfl) Tryz.func6
  (ChangeSpec.witness_shaped (enc:=enc) (C:=Tryz.checked) (os:=os) (X:=fun w _=>laidMetH Tryz.prog Rows.familySessionsRow.laid w) false (World.laidAll Tryz.prog os Rows.familySessionsRow.laid) #[.int .u8 0,.string .empty] 8 (World.laidAll_os _ _ _)
   (World.shaped_of_ZipB (by kernel_rfl) (by kernel_rfl)) (by kernel_rfl) (by kernel_rfl) (by kernel_rfl)
   (by rw [MakeChecks.laidMetH_plain _ _ _ (by kernel_rfl)];exact laidMet_laidAll _ (by kernel_rfl) (by kernel_rfl)))
  (by kernel_rfl) readable rfl (says H) (by kernel_rfl) (by kernel_rfl) (okE _ _) v0 (fun x=>GT lt rfl x) c0.chk (by kernel_rfl) rfl (by kernel_rfl) plain (fun W _ hx=>Xa hx)
end Go.Proofs.YtmjeljjkhblgeaaGreatDoor.familySessions


