/- What is proved: the given statement Rows.UpgradeSoonSaid: at every input the law UpgradeSoon returns true and leaves what its arguments reach as it was. Conditions: none beyond those that the given row itself states. The road: the functions that the law reaches are turned into plain functions over data, which the kernel checks; the plain law is proved of those. -/
import Derived.Test.YtmgppdghdeokbaaGreatRows
import Derived.Test.YtmgppdghdeokbaaGreatChecked
import Derived.Test.YtmgppdghdeokbaaGreatUpgradeSoonDecC
import Derived.Test.YtmgppdghdeokbaaGreatUpgradeSoonPlain
import Derived.KernelRfl
import Derived.JoinedOf
import Derived.Handed
set_option linter.unusedVariables false
set_option linter.unusedSectionVars false
set_option linter.unusedSimpArgs false
namespace Go.Proofs.YtmgppdghdeokbaaGreat.upgradeSoon
open Go.AE Us
theorem own:ownKnob Tryz.prog.godebug=none:=by kernel_rfl
theorem v0 [Ao]:Ac (EF m0) (Ai ts):=(w41) (Ai ts)
theorem v1 [Ao]:Ac (EF m1) (Ai ts):=Ac.decL (okE _ _) v0 (d:=d0 E0) (fun x=>An lt rfl x) c0 rfl (by kernel_rfl)
theorem v2 [Ao]:Ac (EF m2) (Ai ts):=Ac.decL (okE _ _) v1 (d:=d1 E0) (fun x=>An lt rfl x) c1 rfl (by kernel_rfl)
theorem v3 [Ao]:Ac (EF m3) (Ai ts):=Ac.decL (okE _ _) v2 (d:=d2 E0) (fun x=>An lt rfl x) c2 rfl (by kernel_rfl)
theorem v4 [Ao]:Ac (EF m4) (Ai ts):=Ac.decL (okE _ _) v3 (d:=d3 E0) (fun x=>An lt rfl x) c3 rfl (by kernel_rfl)
theorem v5 [Ao]:Ac (EF m5) (Ai ts):=Ac.decL (okE _ _) v4 (d:=d4 E0) (fun x=>An lt rfl x) c4 rfl (by kernel_rfl)
theorem v6 [Ao]:Ac (EF m6) (Ai ts):=Ac.decL (okE _ _) v5 (d:=d5 E0) (fun x=>An lt rfl x) c5 rfl (by kernel_rfl)
theorem v7 [Ao]:Ac (EF m7) (Ai ts):=Ac.decL (okE _ _) v6 (d:=d6 E0) (fun x=>An lt rfl x) c6 rfl (by kernel_rfl)
theorem v8 [Ao]:Ac (EF m8) (Ai ts):=Ac.decL (okE _ _) v7 (d:=d7 E0) (fun x=>An lt rfl x) c7 rfl (by kernel_rfl)
theorem v9 [Ao]:Ac (EF m9) (Ai ts):=Ac.decL (okE _ _) v8 (d:=d8 E0) (fun x=>An lt rfl x) c8 rfl (by kernel_rfl)
theorem v10 [Ao]:Ac (EF m10) (Ai ts):=Ac.decL (okE _ _) v9 (d:=d9 E0) (fun x=>An lt rfl x) c9 rfl (by kernel_rfl)
theorem v11 [Ao]:Ac (EF m11) (Ai ts):=Ac.decL (okE _ _) v10 (d:=d10 E0) (fun x=>An lt rfl x) c10 rfl (by kernel_rfl)
theorem v12 [Ao]:Ac (EF m12) (Ai ts):=Ac.decL (okE _ _) v11 (d:=d11 E0) (fun x=>An lt rfl x) c11 rfl (by kernel_rfl)
theorem v13 [Ao]:Ac (EF m13) (Ai ts):=Ac.decL (okE _ _) v12 (d:=d12 E0) (fun x=>An lt rfl x) c12 rfl (by kernel_rfl)
theorem v14 [Ao]:Ac (EF m14) (Ai ts):=Ac.decL (okE _ _) v13 (d:=d13 E0) (fun x=>An lt rfl x) c13 rfl (by kernel_rfl)
theorem v15 [Ao]:Ac (EF m15) (Ai ts):=Ac.decL (okE _ _) v14 (d:=d14 E0) (fun x=>An lt rfl x) c14 rfl (by kernel_rfl)
theorem v16 [Ao]:Ac (EF m16) (Ai ts):=Ac.decL (okE _ _) v15 (d:=d15 E0) (fun x=>An lt rfl x) c15 rfl (by kernel_rfl)
theorem v17 [Ao]:Ac (EF m17) (Ai ts):=Ac.decL (okE _ _) v16 (d:=d16 E0) (fun x=>An lt rfl x) c16 rfl (by kernel_rfl)
theorem v18 [Ao]:Ac (EF m18) (Ai ts):=Ac.decL (okE _ _) v17 (d:=d17 E0) (fun x=>An lt rfl x) c17 rfl (by kernel_rfl)
theorem v19 [Ao]:Ac (EF m19) (Ai ts):=Ac.decL (okE _ _) v18 (d:=d18 E0) (fun x=>An lt rfl x) c18 rfl (by kernel_rfl)
theorem v20 [Ao]:Ac (EF m20) (Ai ts):=Ac.decL (okE _ _) v19 (d:=d19 E0) (fun x=>An lt rfl x) c19 rfl (by kernel_rfl)
theorem v21 [Ao]:Ac (EF m21) (Ai ts):=Ac.decL (okE _ _) v20 (d:=d20 E0) (fun x=>An lt rfl x) c20 rfl (by kernel_rfl)
theorem v22 [Ao]:Ac (EF m22) (Ai ts):=Ac.decL (okE _ _) v21 (d:=d21 E0) (fun x=>An lt rfl x) c21 rfl (by kernel_rfl)
theorem v23 [Ao]:Ac (EF m23) (Ai ts):=Ac.decL (okE _ _) v22 (d:=d22 E0) (fun x=>An lt rfl x) c22 rfl (by kernel_rfl)
theorem v24 [Ao]:Ac (EF m24) (Ai ts):=Ac.decL (okE _ _) v23 (d:=d23 E0) (fun x=>An lt rfl x) c23 rfl (by kernel_rfl)
theorem v25 [Ao]:Ac (EF m25) (Ai ts):=Ac.decL (okE _ _) v24 (d:=d24 E0) (fun x=>An lt rfl x) c24 rfl (by kernel_rfl)
theorem v26 [Ao]:Ac (EF m26) (Ai ts):=Ac.decL (okE _ _) v25 (d:=d25 E0) (fun x=>An lt rfl x) c25 rfl (by kernel_rfl)
theorem v27 [Ao]:Ac (EF m27) (Ai ts):=Ac.decL (okE _ _) v26 (d:=d26 E0) (fun x=>An lt rfl x) c26 rfl (by kernel_rfl)
theorem v28 [Ao]:Ac (EF m28) (Ai ts):=Ac.decL (okE _ _) v27 (d:=d27 E0) (fun x=>An lt rfl x) c27 rfl (by kernel_rfl)
theorem v29 [Ao]:Ac (EF m29) (Ai ts):=Ac.decL (okE _ _) v28 (d:=d28 E0) (fun x=>An lt rfl x) c28 rfl (by kernel_rfl)
theorem v30 [Ao]:Ac (EF m30) (Ai ts):=Ac.decL (okE _ _) v29 (d:=d29 E0) (fun x=>An lt rfl x) c29 rfl (by kernel_rfl)
theorem v31 [Ao]:Ac (EF m31) (Ai ts):=Ac.decL (okE _ _) v30 (d:=d30 E0) (fun x=>An lt rfl x) c30 rfl (by kernel_rfl)
theorem v32 [Ao]:Ac (EF m32) (Ai ts):=Ac.decL (okE _ _) v31 (d:=d31 E0) (fun x=>An lt rfl x) c31 rfl (by kernel_rfl)
theorem v33 [Ao]:Ac (EF m33) (Ai ts):=Ac.decL (okE _ _) v32 (d:=d32 E0) (fun x=>An lt rfl x) c32 rfl (by kernel_rfl)
theorem v34 [Ao]:Ac (EF m34) (Ai ts):=Ac.decL (okE _ _) v33 (d:=d33 E0) (fun x=>An lt rfl x) c33 rfl (by kernel_rfl)
theorem v35 [Ao]:Ac (EF m35) (Ai ts):=Ac.decL (okE _ _) v34 (d:=d34 E0) (fun x=>An lt rfl x) c34 rfl (by kernel_rfl)
theorem v36 [Ao]:Ac (EF m36) (Ai ts):=Ac.decL (okE _ _) v35 (d:=d35 E0) (fun x=>An lt rfl x) c35 rfl (by kernel_rfl)
theorem v37 [Ao]:Ac (EF m37) (Ai ts):=Ac.decL (okE _ _) v36 (d:=d36 E0) (fun x=>An lt rfl x) c36 rfl (by kernel_rfl)
theorem v38 [Ao]:Ac (EF m38) (Ai ts):=Ac.decL (okE _ _) v37 (d:=d37 E0) (fun x=>An lt rfl x) c37 rfl (by kernel_rfl)
theorem v39 [Ao]:Ac (EF m39) (Ai ts):=Ac.decL (okE _ _) v38 (d:=d38 E0) (fun x=>An lt rfl x) c38 rfl (by kernel_rfl)
theorem v40 [Ao]:Ac (EF m40) (Ai ts):=Ac.decL (okE _ _) v39 (d:=d39 E0) (fun x=>An lt rfl x) c39 rfl (by kernel_rfl)
theorem v41 [Ao]:Ac (EF m41) (Ai ts):=Ac.decL (okE _ _) v40 (d:=d40 E0) (fun x=>An lt rfl x) c40 rfl (by kernel_rfl)
theorem v42 [Ao]:Ac (EF m42) (Ai ts):=Ac.decL (okE _ _) v41 (d:=d41 E0) (fun x=>An lt rfl x) c41 rfl (by kernel_rfl)
theorem v43 [Ao]:Ac (EF m43) (Ai ts):=Ac.decL (okE _ _) v42 (d:=d42 E0) (fun x=>An lt rfl x) c42 rfl (by kernel_rfl)
theorem v44 [Ao]:Ac (EF m44) (Ai ts):=Ac.decL (okE _ _) v43 (d:=d43 E0) (fun x=>An lt rfl x) c43 rfl (by kernel_rfl)
theorem v45 [Ao]:Ac (EF m45) (Ai ts):=Ac.decL (okE _ _) v44 (d:=d44 E0) (fun x=>An lt rfl x) c44 rfl (by kernel_rfl)
theorem v46 [Ao]:Ac (EF m46) (Ai ts):=Ac.decL (okE _ _) v45 (d:=d45 E0) (fun x=>An lt rfl x) c45 rfl (by kernel_rfl)
theorem v47 [Ao]:Ac (EF m47) (Ai ts):=Ac.decL (okE _ _) v46 (d:=d46 E0) (fun x=>An lt rfl x) c46 rfl (by kernel_rfl)
theorem v48 [Ao]:Ac (EF m48) (Ai ts):=Ac.decL (okE _ _) v47 (d:=d47 E0) (fun x=>An lt rfl x) c47 rfl (by kernel_rfl)
theorem v49 [Ao]:Ac (EF m49) (Ai ts):=Ac.decL (okE _ _) v48 (d:=d48 E0) (fun x=>An lt rfl x) c48 rfl (by kernel_rfl)
theorem v50 [Ao]:Ac (EF m50) (Ai ts):=Ac.decL (okE _ _) v49 (d:=d49 E0) (fun x=>An lt rfl x) c49 rfl (by kernel_rfl)
theorem v51 [Ao]:Ac (EF m51) (Ai ts):=Ac.decL (okE _ _) v50 (d:=d50 E0) (fun x=>An lt rfl x) c50 rfl (by kernel_rfl)
theorem v52 [Ao]:Ac (EF m52) (Ai ts):=Ac.decL (okE _ _) v51 (d:=d51 E0) (fun x=>An lt rfl x) c51 rfl (by kernel_rfl)
theorem v53 [Ao]:Ac (EF m53) (Ai ts):=Ac.decL (okE _ _) v52 (d:=d52 E0) (fun x=>An lt rfl x) c52 rfl (by kernel_rfl)
theorem v54 [Ao]:Ac (EF m54) (Ai ts):=Ac.decL (okE _ _) v53 (d:=d53 E0) (fun x=>An lt rfl x) c53 rfl (by kernel_rfl)
theorem v55 [Ao]:Ac (EF m55) (Ai ts):=Ac.decL (okE _ _) v54 (d:=d54 E0) (fun x=>An lt rfl x) c54 rfl (by kernel_rfl)
theorem v56 [Ao]:Ac (EF m56) (Ai ts):=Ac.decL (okE _ _) v55 (d:=d55 E0) (fun x=>An lt rfl x) c55 rfl (by kernel_rfl)
theorem v57 [Ao]:Ac (EF m57) (Ai ts):=Ac.decL (okE _ _) v56 (d:=d56 E0) (fun x=>An lt rfl x) c56 rfl (by kernel_rfl)
theorem v58 [Ao]:Ac (EF m58) (Ai ts):=Ac.decL (okE _ _) v57 (d:=d57 E0) (fun x=>An lt rfl x) c57 rfl (by kernel_rfl)
theorem v59 [Ao]:Ac (EF m59) (Ai ts):=Ac.decL (okE _ _) v58 (d:=d58 E0) (fun x=>An lt rfl x) c58 rfl (by kernel_rfl)
theorem v60 [Ao]:Ac (EF m60) (Ai ts):=Ac.decL (okE _ _) v59 (d:=d59 E0) (fun x=>An lt rfl x) c59 rfl (by kernel_rfl)
theorem v61 [Ao]:Ac (EF m61) (Ai ts):=Ac.decL (okE _ _) v60 (d:=d60 E0) (fun x=>An lt rfl x) c60 rfl (by kernel_rfl)
theorem v62 [Ao]:Ac (EF m62) (Ai ts):=Ac.decL (okE _ _) v61 (d:=d61 E0) (fun x=>An lt rfl x) c61 rfl (by kernel_rfl)
theorem v63 [Ao]:Ac (EF m63) (Ai ts):=Ac.decL (okE _ _) v62 (d:=d62 E0) (fun x=>An lt rfl x) c62 rfl (by kernel_rfl)
theorem v64 [Ao]:Ac (EF m64) (Ai ts):=Ac.decL (okE _ _) v63 (d:=d63 E0) (fun x=>An lt rfl x) c63 rfl (by kernel_rfl)
theorem v65 [Ao]:Ac (EF m65) (Ai ts):=Ac.decL (okE _ _) v64 (d:=d64 E0) (fun x=>An lt rfl x) c64 rfl (by kernel_rfl)
theorem v66 [Ao]:Ac (EF m66) (Ai ts):=Ac.decL (okE _ _) v65 (d:=d65 E0) (fun x=>An lt rfl x) c65 rfl (by kernel_rfl)
theorem v67 [Ao]:Ac (EF m67) (Ai ts):=Ac.decL (okE _ _) v66 (d:=d66 E0) (fun x=>An lt rfl x) c66 rfl (by kernel_rfl)
theorem v68 [Ao]:Ac (EF m68) (Ai ts):=Ac.decL (okE _ _) v67 (d:=d67 E0) (fun x=>An lt rfl x) c67 rfl (by kernel_rfl)
theorem v69 [Ao]:Ac (EF m69) (Ai ts):=Ac.decL (okE _ _) v68 (d:=d68 E0) (fun x=>An lt rfl x) c68 rfl (by kernel_rfl)
theorem v70 [Ao]:Ac (EF m70) (Ai ts):=Ac.decL (okE _ _) v69 (d:=d69 E0) (fun x=>An lt rfl x) c69 rfl (by kernel_rfl)
theorem v71 [Ao]:Ac (EF m71) (Ai ts):=Ac.decL (okE _ _) v70 (d:=d70 E0) (fun x=>An lt rfl x) c70 rfl (by kernel_rfl)
theorem v72 [Ao]:Ac (EF m72) (Ai ts):=Ac.decL (okE _ _) v71 (d:=d71 E0) (fun x=>An lt rfl x) c71 rfl (by kernel_rfl)
theorem v73 [Ao]:Ac (EF m73) (Ai ts):=Ac.decL (okE _ _) v72 (d:=d72 E0) (fun x=>An lt rfl x) c72 rfl (by kernel_rfl)
theorem v74 [Ao]:Ac (EF m74) (Ai ts):=Ac.decL (okE _ _) v73 (d:=d73 E0) (fun x=>An lt rfl x) c73 rfl (by kernel_rfl)
theorem v75 [Ao]:Ac (EF m75) (Ai ts):=Ac.decL (okE _ _) v74 (d:=d74 E0) (fun x=>An lt rfl x) c74 rfl (by kernel_rfl)
theorem v76 [Ao]:Ac (EF m76) (Ai ts):=Ac.decL (okE _ _) v75 (d:=d75 E0) (fun x=>An lt rfl x) c75 rfl (by kernel_rfl)
theorem v77 [Ao]:Ac (EF m77) (Ai ts):=Ac.decL (okE _ _) v76 (d:=d76 E0) (fun x=>An lt rfl x) c76 rfl (by kernel_rfl)
theorem v78 [Ao]:Ac (EF m78) (Ai ts):=Ac.decL (okE _ _) v77 (d:=d77 E0) (fun x=>An lt rfl x) c77 rfl (by kernel_rfl)
theorem v79 [Ao]:Ac (EF m79) (Ai ts):=Ac.decL (okE _ _) v78 (d:=d78 E0) (fun x=>An lt rfl x) c78 rfl (by kernel_rfl)
theorem v80 [Ao]:Ac (EF m80) (Ai ts):=Ac.decL (okE _ _) v79 (d:=d79 E0) (fun x=>An lt rfl x) c79 rfl (by kernel_rfl)
theorem v81 [Ao]:Ac (EF m81) (Ai ts):=Ac.decL (okE _ _) v80 (d:=d80 E0) (fun x=>An lt rfl x) c80 rfl (by kernel_rfl)
theorem v82 [Ao]:Ac (EF m82) (Ai ts):=Ac.decL (okE _ _) v81 (d:=d81 E0) (fun x=>An lt rfl x) c81 rfl (by kernel_rfl)
theorem v83 [Ao]:Ac (EF m83) (Ai ts):=Ac.decL (okE _ _) v82 (d:=d82 E0) (fun x=>An lt rfl x) c82 rfl (by kernel_rfl)
theorem v84 [Ao]:Ac (EF m84) (Ai ts):=Ac.decL (okE _ _) v83 (d:=d83 E0) (fun x=>An lt rfl x) c83 rfl (by kernel_rfl)
theorem v85 [Ao]:Ac (EF m85) (Ai ts):=Ac.decL (okE _ _) v84 (d:=d84 E0) (fun x=>An lt rfl x) c84 rfl (by kernel_rfl)
theorem v86 [Ao]:Ac (EF m86) (Ai ts):=Ac.decL (okE _ _) v85 (d:=d85 E0) (fun x=>An lt rfl x) c85 rfl (by kernel_rfl)
theorem v87 [Ao]:Ac (EF m87) (Ai ts):=Ac.decL (okE _ _) v86 (d:=d86 E0) (fun x=>An lt rfl x) c86 rfl (by kernel_rfl)
theorem v88 [Ao]:Ac (EF m88) (Ai ts):=Ac.decL (okE _ _) v87 (d:=d87 E0) (fun x=>An lt rfl x) c87 rfl (by kernel_rfl)
theorem v89 [Ao]:Ac (EF m89) (Ai ts):=Ac.decL (okE _ _) v88 (d:=d88 E0) (fun x=>An lt rfl x) c88 rfl (by kernel_rfl)
theorem v90 [Ao]:Ac (EF m90) (Ai ts):=Ac.decL (okE _ _) v89 (d:=d89 E0) (fun x=>An lt rfl x) c89 rfl (by kernel_rfl)
theorem v91 [Ao]:Ac (EF m91) (Ai ts):=Ac.decL (okE _ _) v90 (d:=d90 E0) (fun x=>An lt rfl x) c90 rfl (by kernel_rfl)
theorem readable:∀t ∈ Tryz.f3.params.toList,Tryz.prog.readableRec t=true∧t < Tryz.prog.types.size:=by
 have h:(Tryz.f3.params.toList.all fun t=>Tryz.prog.readableRec t && decide (t < Tryz.prog.types.size))=true:=by kernel_rfl
 intro t ht;have q:=List.all_eq_true.mp h t ht;rw [Bool.and_eq_true,decide_eq_true_eq] at q;exact q
theorem says (H:Type) (ds:List (DataW H)) (hl:ds.length=Tryz.f3.params.toList.length):Rows.upgradeSoonSpec.fn H ds={results:=[.lit (.bool true)],args:=ds}:=by
 have e:Tryz.f3.params.toList.length=3:=by kernel_rfl
 rw [e] at hl;rcases ds with _ | ⟨d0,_ | ⟨d1,_ | ⟨d2,_ | ⟨d3,r⟩⟩⟩⟩<;>first | rfl | (simp only [List.length_cons,List.length_nil] at hl;omega)
theorem plain [Ao] (xs:List D) (h:Jl Tryz.prog Tryz.f3.params.toList xs):Ai ts 91 (.row (.int 0 :: xs))=.row [.int 1,.bool true]:=by
 obtain ⟨hl,hc⟩:=VV (ks:=[.str,.slice 98,.slice 96,.slice 101,.str,.slice 98,.slice 96,.slice 101,.slice 103,.slice 188,.slice 3]) h (by kernel_rfl)
 have K98:(Env.of Tryz.prog).kinds 98=some [.str,.bool,.int .i64]:=by kernel_rfl
 have K96:(Env.of Tryz.prog).kinds 96=some [.str,.int .i64]:=by kernel_rfl
 have K101:(Env.of Tryz.prog).kinds 101=some [.str,.str,.int .i64,.str,.str,.str,.int .i64,.int .i64,.int .i64]:=by kernel_rfl
 have K188:(Env.of Tryz.prog).kinds 188=some [.str,.str,.int .i64]:=by kernel_rfl
 have K3:(Env.of Tryz.prog).kinds 3=some [.int .i64]:=by kernel_rfl
 match xs,hl,hc with
 | [v0,v1,v2,v3,v4,v5,v6,v7,v8,v9,v10],_,hc=>
  have h1:ES (Env.of Tryz.prog).kinds 9 (.slice 98) v1:=hc 1 _ rfl;have h2:ES (Env.of Tryz.prog).kinds 9 (.slice 96) v2:=hc 2 _ rfl;have h3:ES (Env.of Tryz.prog).kinds 9 (.slice 101) v3:=hc 3 _ rfl;have h9:ES (Env.of Tryz.prog).kinds 9 (.slice 188) v9:=hc 9 _ rfl;have h10:ES (Env.of Tryz.prog).kinds 9 (.slice 3) v10:=hc 10 _ rfl
  have nil:∀{e:TypeId} {v:D},ES (Env.of Tryz.prog).kinds 9 (.slice e) v→D5 v:=fun hb q=>by
   obtain ⟨nl,rows,rfl,z,_⟩:=hb;exact z q
  have isl:∀{e:TypeId} {v:D},ES (Env.of Tryz.prog).kinds 9 (.slice e) v→IsL v:=fun hb=>by
   obtain ⟨nl,rows,rfl,z,_⟩:=hb;exact ⟨nl,rows,rfl⟩
  have S:∀v:D,ES (Env.of Tryz.prog).kinds 9 (.slice 101) v→Ti v:=fun v hb i hi=>
   ⟨(hb.cell (i:=(i:Int)) (j:=2) K101 (by omega) (by omega) rfl).toI,(hb.cell (i:=(i:Int)) (j:=6) K101 (by omega) (by omega) rfl).toI,(hb.cell (i:=(i:Int)) (j:=7) K101 (by omega) (by omega) rfl).toI,(hb.cell (i:=(i:Int)) (j:=8) K101 (by omega) (by omega) rfl).toI⟩
  exact law (S v3 h3) (S v7 (hc 7 _ rfl)) (fun i hi=>(h9.cell (i:=(i:Int)) (j:=2) K188 (by omega) (by omega) rfl).toI)
   (fun i hi=>by
    obtain ⟨b,hb⟩:=(h1.cell (i:=(i:Int)) (j:=1) K98 (by omega) (by omega) rfl).toB
    obtain ⟨w,hw⟩:=(h1.cell (i:=(i:Int)) (j:=2) K98 (by omega) (by omega) rfl).toI
    exact ⟨b,w,hb,hw⟩)
   (fun i hi=>(h2.cell (i:=(i:Int)) (j:=1) K96 (by omega) (by omega) rfl).toI)
   (fun i hi=>(h10.cell (i:=(i:Int)) (j:=0) K3 (by omega) (by omega) rfl).toI)
   (nil h1) (nil h2) (nil h3) (isl h1) (isl h2) (isl h3)
theorem lifted (os:Os) (started:os.Started) (H:Type) (enc:TypeId × Value→H) :
  ReturnsInHanded {} Tryz.checked os 3 .any (Rows.upgradeSoonSpec.pre6 enc Tryz.prog Tryz.f3 Rows.upgradeSoonRow.domain false) (Rows.upgradeSoonSpec.post enc Tryz.prog Tryz.f3 false true false false):=by
 obtain ⟨inst⟩:=WB
 exact Kp (C:=Tryz.checked) (d:=d91 E0) (T:=t91) (keys:=[10,19]) (N:=20000) (tb:=4) (L:=[98,96,101,103,188,3]) own started (by kernel_rfl) Tryz.func3
  (ChangeSpec.witness6 (enc:=enc) (C:=Tryz.checked) false ⟨#[],#[.agg #[.string .empty,.slice none 0 0,.slice none 0 0,.slice none 0 0],.agg #[.string .empty,.slice none 0 0,.slice none 0 0,.slice none 0 0,.slice none 0 0,.slice none 0 0],.slice none 0 0],[]⟩ 8 (by kernel_rfl) (by kernel_rfl) (by kernel_rfl) (by kernel_rfl))
  (by kernel_rfl) readable rfl (says H) (by kernel_rfl) (by kernel_rfl) (okE _ _) v91 (fun x=>An lt rfl x) c91.chk (by kernel_rfl) rfl (by kernel_rfl) plain
theorem over:Rows.upgradeSoonRow.holds Tryz.pinned (OpenSpec.ofChange Rows.upgradeSoonSpec):=
 OpenClaim.holds_of_wide 3 Tryz.f3 rfl rfl rfl rfl rfl rfl rfl ⟨rfl,rfl,rfl,rfl,rfl⟩ rfl rfl rfl rfl rfl (by kernel_rfl) Tryz.func3 (by kernel_rfl)
  (of_decide_eq_true (by kernel_rfl)) (by unfold Func.isWrapper;first | (rw [if_pos (by decide +kernel)];kernel_rfl) | (rw [if_neg (by decide +kernel)];exact ⟨rfl,rfl⟩))
  (fun os started H enc _=>lifted os started H enc)
theorem proved:Rows.UpgradeSoonSaid:=over
end Go.Proofs.YtmgppdghdeokbaaGreat.upgradeSoon

