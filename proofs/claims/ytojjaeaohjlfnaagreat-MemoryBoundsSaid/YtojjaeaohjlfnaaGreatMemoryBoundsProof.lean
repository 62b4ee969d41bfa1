/- What is proved: the given statement Rows.MemoryBoundsSaid: at every input the law MemoryBounds returns true and leaves what its arguments reach as it was. Conditions: none beyond those that the given row itself states. The road: the functions that the law reaches are turned into plain functions over data, which the kernel checks; the plain law is proved of those. -/
import Derived.Test.YtojjaeaohjlfnaaGreatRows
import Derived.Test.YtojjaeaohjlfnaaGreatChecked
import Derived.Test.YtojjaeaohjlfnaaGreatMemoryBoundsDecB
import Derived.Test.YtojjaeaohjlfnaaGreatMemoryBoundsPlain
import Derived.KernelRfl
import Derived.JoinedOf
import Derived.Handed
set_option linter.unusedVariables false
set_option linter.unusedSectionVars false
set_option linter.unusedSimpArgs false
namespace Go.Proofs.YtojjaeaohjlfnaaGreat.memoryBounds
open Go.AE Mz
theorem own:ownKnob Tryz.prog.godebug=none:=by kernel_rfl
theorem v0[Ao]:Ac (EF m0) (Ag ts):=(fun G=>(Ac.cons (U:=HD) (w18 G) (w0 G):Ac (Env.ofS Tryz.prog [o18] []) G)) (Ag ts)
theorem v1[Ao]:Ac (EF m1) (Ag ts):=Ac.decL (okE _ _) v0 (d:=d0 E0) (fun x=>Ak lt rfl x) c0 rfl (by kernel_rfl)
theorem v2[Ao]:Ac (EF m2) (Ag ts):=Ac.decL (okE _ _) v1 (d:=d1 E0) (fun x=>Ak lt rfl x) c1 rfl (by kernel_rfl)
theorem v3[Ao]:Ac (EF m3) (Ag ts):=Ac.decL (okE _ _) v2 (d:=d2 E0) (fun x=>Ak lt rfl x) c2 rfl (by kernel_rfl)
theorem v4[Ao]:Ac (EF m4) (Ag ts):=Ac.decL (okE _ _) v3 (d:=d3 E0) (fun x=>Ak lt rfl x) c3 rfl (by kernel_rfl)
theorem v5[Ao]:Ac (EF m5) (Ag ts):=Ac.decL (okE _ _) v4 (d:=d4 E0) (fun x=>Ak lt rfl x) c4 rfl (by kernel_rfl)
theorem v6[Ao]:Ac (EF m6) (Ag ts):=Ac.decL (okE _ _) v5 (d:=d5 E0) (fun x=>Ak lt rfl x) c5 rfl (by kernel_rfl)
theorem v7[Ao]:Ac (EF m7) (Ag ts):=Ac.decL (okE _ _) v6 (d:=d6 E0) (fun x=>Ak lt rfl x) c6 rfl (by kernel_rfl)
theorem v8[Ao]:Ac (EF m8) (Ag ts):=Ac.decL (okE _ _) v7 (d:=d7 E0) (fun x=>Ak lt rfl x) c7 rfl (by kernel_rfl)
theorem v9[Ao]:Ac (EF m9) (Ag ts):=Ac.decL (okE _ _) v8 (d:=d8 E0) (fun x=>Ak lt rfl x) c8 rfl (by kernel_rfl)
theorem v10[Ao]:Ac (EF m10) (Ag ts):=Ac.decL (okE _ _) v9 (d:=d9 E0) (fun x=>Ak lt rfl x) c9 rfl (by kernel_rfl)
theorem v11[Ao]:Ac (EF m11) (Ag ts):=Ac.decL (okE _ _) v10 (d:=d10 E0) (fun x=>Ak lt rfl x) c10 rfl (by kernel_rfl)
theorem v12[Ao]:Ac (EF m12) (Ag ts):=Ac.decL (okE _ _) v11 (d:=d11 E0) (fun x=>Ak lt rfl x) c11 rfl (by kernel_rfl)
theorem v13[Ao]:Ac (EF m13) (Ag ts):=Ac.decL (okE _ _) v12 (d:=d12 E0) (fun x=>Ak lt rfl x) c12 rfl (by kernel_rfl)
theorem v14[Ao]:Ac (EF m14) (Ag ts):=Ac.decL (okE _ _) v13 (d:=d13 E0) (fun x=>Ak lt rfl x) c13 rfl (by kernel_rfl)
theorem v15[Ao]:Ac (EF m15) (Ag ts):=Ac.decL (okE _ _) v14 (d:=d14 E0) (fun x=>Ak lt rfl x) c14 rfl (by kernel_rfl)
theorem v16[Ao]:Ac (EF m16) (Ag ts):=Ac.decL (okE _ _) v15 (d:=d15 E0) (fun x=>Ak lt rfl x) c15 rfl (by kernel_rfl)
theorem v17[Ao]:Ac (EF m17) (Ag ts):=Ac.decL (okE _ _) v16 (d:=d16 E0) (fun x=>Ak lt rfl x) c16 rfl (by kernel_rfl)
theorem v18[Ao]:Ac (EF m18) (Ag ts):=Ac.decL (okE _ _) v17 (d:=d17 E0) (fun x=>Ak lt rfl x) c17 rfl (by kernel_rfl)
theorem v19[Ao]:Ac (EF m19) (Ag ts):=Ac.decL (okE _ _) v18 (d:=d18 E0) (fun x=>Ak lt rfl x) c18 rfl (by kernel_rfl)
theorem v20[Ao]:Ac (EF m20) (Ag ts):=Ac.decL (okE _ _) v19 (d:=d19 E0) (fun x=>Ak lt rfl x) c19 rfl (by kernel_rfl)
theorem v21[Ao]:Ac (EF m21) (Ag ts):=Ac.decL (okE _ _) v20 (d:=d20 E0) (fun x=>Ak lt rfl x) c20 rfl (by kernel_rfl)
theorem v22[Ao]:Ac (EF m22) (Ag ts):=Ac.decL (okE _ _) v21 (d:=d21 E0) (fun x=>Ak lt rfl x) c21 rfl (by kernel_rfl)
theorem v23[Ao]:Ac (EF m23) (Ag ts):=Ac.decL (okE _ _) v22 (d:=d22 E0) (fun x=>Ak lt rfl x) c22 rfl (by kernel_rfl)
theorem v24[Ao]:Ac (EF m24) (Ag ts):=Ac.decL (okE _ _) v23 (d:=d23 E0) (fun x=>Ak lt rfl x) c23 rfl (by kernel_rfl)
theorem v25[Ao]:Ac (EF m25) (Ag ts):=Ac.decL (okE _ _) v24 (d:=d24 E0) (fun x=>Ak lt rfl x) c24 rfl (by kernel_rfl)
theorem v26[Ao]:Ac (EF m26) (Ag ts):=Ac.decL (okE _ _) v25 (d:=d25 E0) (fun x=>Ak lt rfl x) c25 rfl (by kernel_rfl)
theorem v27[Ao]:Ac (EF m27) (Ag ts):=Ac.decL (okE _ _) v26 (d:=d26 E0) (fun x=>Ak lt rfl x) c26 rfl (by kernel_rfl)
theorem v28[Ao]:Ac (EF m28) (Ag ts):=Ac.decL (okE _ _) v27 (d:=d27 E0) (fun x=>Ak lt rfl x) c27 rfl (by kernel_rfl)
theorem v29[Ao]:Ac (EF m29) (Ag ts):=Ac.decL (okE _ _) v28 (d:=d28 E0) (fun x=>Ak lt rfl x) c28 rfl (by kernel_rfl)
theorem v30[Ao]:Ac (EF m30) (Ag ts):=Ac.decL (okE _ _) v29 (d:=d29 E0) (fun x=>Ak lt rfl x) c29 rfl (by kernel_rfl)
theorem v31[Ao]:Ac (EF m31) (Ag ts):=Ac.fake (Ac.decL (okE _ _) v30 (d:=d30 E0) (fun x=>Ak lt rfl x) c30 rfl (by kernel_rfl)) rfl
theorem v32[Ao]:Ac (EF m32) (Ag ts):=Ac.decL (okE _ _) v31 (d:=d31 E0) (fun x=>Ak lt rfl x) c31 rfl (by kernel_rfl)
theorem v33[Ao]:Ac (EF m33) (Ag ts):=Ac.cut (Ac.decL (okE _ _) v32 (d:=d32 E0) (fun x=>Ak lt rfl x) c32 rfl (by kernel_rfl))
theorem v34[Ao]:Ac (EF m34) (Ag ts):=Ac.decL (okE _ _) v33 (d:=d33 E0) (fun x=>Ak lt rfl x) c33 rfl (by kernel_rfl)
theorem v35[Ao]:Ac (EF m35) (Ag ts):=Ac.cut (Ac.cut (Ac.decL (okE _ _) v34 (d:=d34 E0) (fun x=>Ak lt rfl x) c34 rfl (by kernel_rfl)))
theorem v36[Ao]:Ac (EF m36) (Ag ts):=Ac.decL (okE _ _) v35 (d:=d35 E0) (fun x=>Ak lt rfl x) c35 rfl (by kernel_rfl)
theorem v37[Ao]:Ac (EF m37) (Ag ts):=Ac.cut (Ac.cut (Ac.decL (okE _ _) v36 (d:=d36 E0) (fun x=>Ak lt rfl x) c36 rfl (by kernel_rfl)))
theorem v38[Ao]:Ac (EF m38) (Ag ts):=Ac.decL (okE _ _) v37 (d:=d37 E0) (fun x=>Ak lt rfl x) c37 rfl (by kernel_rfl)
theorem v39[Ao]:Ac (EF m39) (Ag ts):=Ac.cut (Ac.cut (Ac.decL (okE _ _) v38 (d:=d38 E0) (fun x=>Ak lt rfl x) c38 rfl (by kernel_rfl)))
theorem v40[Ao]:Ac (EF m40) (Ag ts):=Ac.decL (okE _ _) v39 (d:=d39 E0) (fun x=>Ak lt rfl x) c39 rfl (by kernel_rfl)
theorem v41[Ao]:Ac (EF m41) (Ag ts):=Ac.cut (Ac.cut (Ac.decL (okE _ _) v40 (d:=d40 E0) (fun x=>Ak lt rfl x) c40 rfl (by kernel_rfl)))
theorem v42[Ao]:Ac (EF m42) (Ag ts):=Ac.decL (okE _ _) v41 (d:=d41 E0) (fun x=>Ak lt rfl x) c41 rfl (by kernel_rfl)
theorem v43[Ao]:Ac (EF m43) (Ag ts):=Ac.cut (Ac.cut (Ac.decL (okE _ _) v42 (d:=d42 E0) (fun x=>Ak lt rfl x) c42 rfl (by kernel_rfl)))
theorem v44[Ao]:Ac (EF m44) (Ag ts):=Ac.decL (okE _ _) v43 (d:=d43 E0) (fun x=>Ak lt rfl x) c43 rfl (by kernel_rfl)
theorem v45[Ao]:Ac (EF m45) (Ag ts):=Ac.cut (Ac.cut (Ac.decL (okE _ _) v44 (d:=d44 E0) (fun x=>Ak lt rfl x) c44 rfl (by kernel_rfl)))
theorem v46[Ao]:Ac (EF m46) (Ag ts):=Ac.decL (okE _ _) v45 (d:=d45 E0) (fun x=>Ak lt rfl x) c45 rfl (by kernel_rfl)
theorem v47[Ao]:Ac (EF m47) (Ag ts):=Ac.cut (Ac.cut (Ac.decL (okE _ _) v46 (d:=d46 E0) (fun x=>Ak lt rfl x) c46 rfl (by kernel_rfl)))
theorem v48[Ao]:Ac (EF m48) (Ag ts):=Ac.decL (okE _ _) v47 (d:=d47 E0) (fun x=>Ak lt rfl x) c47 rfl (by kernel_rfl)
theorem v49[Ao]:Ac (EF m49) (Ag ts):=Ac.cut (Ac.cut (Ac.decL (okE _ _) v48 (d:=d48 E0) (fun x=>Ak lt rfl x) c48 rfl (by kernel_rfl)))
theorem v50[Ao]:Ac (EF m50) (Ag ts):=Ac.decL (okE _ _) v49 (d:=d49 E0) (fun x=>Ak lt rfl x) c49 rfl (by kernel_rfl)
theorem v51[Ao]:Ac (EF m51) (Ag ts):=Ac.decL (okE _ _) v50 (d:=d50 E0) (fun x=>Ak lt rfl x) c50 rfl (by kernel_rfl)
theorem v52[Ao]:Ac (EF m52) (Ag ts):=Ac.decL (okE _ _) v51 (d:=d51 E0) (fun x=>Ak lt rfl x) c51 rfl (by kernel_rfl)
theorem v53[Ao]:Ac (EF m53) (Ag ts):=Ac.decL (okE _ _) v52 (d:=d52 E0) (fun x=>Ak lt rfl x) c52 rfl (by kernel_rfl)
theorem v54[Ao]:Ac (EF m54) (Ag ts):=Ac.decL (okE _ _) v53 (d:=d53 E0) (fun x=>Ak lt rfl x) c53 rfl (by kernel_rfl)
theorem v55[Ao]:Ac (EF m55) (Ag ts):=Ac.decL (okE _ _) v54 (d:=d54 E0) (fun x=>Ak lt rfl x) c54 rfl (by kernel_rfl)
theorem v56[Ao]:Ac (EF m56) (Ag ts):=Ac.decL (okE _ _) v55 (d:=d55 E0) (fun x=>Ak lt rfl x) c55 rfl (by kernel_rfl)
theorem v57[Ao]:Ac (EF m57) (Ag ts):=Ac.decL (okE _ _) v56 (d:=d56 E0) (fun x=>Ak lt rfl x) c56 rfl (by kernel_rfl)
theorem v58[Ao]:Ac (EF m58) (Ag ts):=Ac.decL (okE _ _) v57 (d:=d57 E0) (fun x=>Ak lt rfl x) c57 rfl (by kernel_rfl)
theorem v59[Ao]:Ac (EF m59) (Ag ts):=Ac.decL (okE _ _) v58 (d:=d58 E0) (fun x=>Ak lt rfl x) c58 rfl (by kernel_rfl)
theorem v60[Ao]:Ac (EF m60) (Ag ts):=Ac.decL (okE _ _) v59 (d:=d59 E0) (fun x=>Ak lt rfl x) c59 rfl (by kernel_rfl)
theorem v61[Ao]:Ac (EF m61) (Ag ts):=Ac.decL (okE _ _) v60 (d:=d60 E0) (fun x=>Ak lt rfl x) c60 rfl (by kernel_rfl)
theorem v62[Ao]:Ac (EF m62) (Ag ts):=Ac.decL (okE _ _) v61 (d:=d61 E0) (fun x=>Ak lt rfl x) c61 rfl (by kernel_rfl)
theorem v63[Ao]:Ac (EF m63) (Ag ts):=Ac.decL (okE _ _) v62 (d:=d62 E0) (fun x=>Ak lt rfl x) c62 rfl (by kernel_rfl)
theorem v64[Ao]:Ac (EF m64) (Ag ts):=Ac.decL (okE _ _) v63 (d:=d63 E0) (fun x=>Ak lt rfl x) c63 rfl (by kernel_rfl)
theorem v65[Ao]:Ac (EF m65) (Ag ts):=Ac.decL (okE _ _) v64 (d:=d64 E0) (fun x=>Ak lt rfl x) c64 rfl (by kernel_rfl)
theorem v66[Ao]:Ac (EF m66) (Ag ts):=Ac.decL (okE _ _) v65 (d:=d65 E0) (fun x=>Ak lt rfl x) c65 rfl (by kernel_rfl)
theorem v67[Ao]:Ac (EF m67) (Ag ts):=Ac.decL (okE _ _) v66 (d:=d66 E0) (fun x=>Ak lt rfl x) c66 rfl (by kernel_rfl)
theorem v68[Ao]:Ac (EF m68) (Ag ts):=Ac.decL (okE _ _) v67 (d:=d67 E0) (fun x=>Ak lt rfl x) c67 rfl (by kernel_rfl)
theorem v69[Ao]:Ac (EF m69) (Ag ts):=Ac.fake (Ac.decL (okE _ _) v68 (d:=d68 E0) (fun x=>Ak lt rfl x) c68 rfl (by kernel_rfl)) rfl
theorem v70[Ao]:Ac (EF m70) (Ag ts):=Ac.decL (okE _ _) v69 (d:=d69 E0) (fun x=>Ak lt rfl x) c69 rfl (by kernel_rfl)
theorem v71[Ao]:Ac (EF m71) (Ag ts):=Ac.cut (Ac.decL (okE _ _) v70 (d:=d70 E0) (fun x=>Ak lt rfl x) c70 rfl (by kernel_rfl))
theorem v72[Ao]:Ac (EF m72) (Ag ts):=Ac.cut (Ac.decL (okE _ _) v71 (d:=d71 E0) (fun x=>Ak lt rfl x) c71 rfl (by kernel_rfl))
theorem v73[Ao]:Ac (EF m73) (Ag ts):=Ac.cut (Ac.decL (okE _ _) v72 (d:=d72 E0) (fun x=>Ak lt rfl x) c72 rfl (by kernel_rfl))
theorem v74[Ao]:Ac (EF m74) (Ag ts):=Ac.cut (Ac.decL (okE _ _) v73 (d:=d73 E0) (fun x=>Ak lt rfl x) c73 rfl (by kernel_rfl))
theorem v75[Ao]:Ac (EF m75) (Ag ts):=Ac.cut (Ac.decL (okE _ _) v74 (d:=d74 E0) (fun x=>Ak lt rfl x) c74 rfl (by kernel_rfl))
theorem v76[Ao]:Ac (EF m76) (Ag ts):=Ac.cut (Ac.decL (okE _ _) v75 (d:=d75 E0) (fun x=>Ak lt rfl x) c75 rfl (by kernel_rfl))
theorem v77[Ao]:Ac (EF m77) (Ag ts):=Ac.cut (Ac.decL (okE _ _) v76 (d:=d76 E0) (fun x=>Ak lt rfl x) c76 rfl (by kernel_rfl))
theorem v78[Ao]:Ac (EF m78) (Ag ts):=Ac.cut (Ac.decL (okE _ _) v77 (d:=d77 E0) (fun x=>Ak lt rfl x) c77 rfl (by kernel_rfl))
theorem v79[Ao]:Ac (EF m79) (Ag ts):=Ac.decL (okE _ _) v78 (d:=d78 E0) (fun x=>Ak lt rfl x) c78 rfl (by kernel_rfl)
theorem v80[Ao]:Ac (EF m80) (Ag ts):=Ac.decL (okE _ _) v79 (d:=d79 E0) (fun x=>Ak lt rfl x) c79 rfl (by kernel_rfl)
theorem v81[Ao]:Ac (EF m81) (Ag ts):=Ac.fake (Ac.decL (okE _ _) v80 (d:=d80 E0) (fun x=>Ak lt rfl x) c80 rfl (by kernel_rfl)) rfl
theorem v82[Ao]:Ac (EF m82) (Ag ts):=Ac.decL (okE _ _) v81 (d:=d81 E0) (fun x=>Ak lt rfl x) c81 rfl (by kernel_rfl)
theorem v83[Ao]:Ac (EF m83) (Ag ts):=Ac.cut (Ac.decL (okE _ _) v82 (d:=d82 E0) (fun x=>Ak lt rfl x) c82 rfl (by kernel_rfl))
theorem v84[Ao]:Ac (EF m84) (Ag ts):=Ac.cut (Ac.decL (okE _ _) v83 (d:=d83 E0) (fun x=>Ak lt rfl x) c83 rfl (by kernel_rfl))
theorem v85[Ao]:Ac (EF m85) (Ag ts):=Ac.cut (Ac.decL (okE _ _) v84 (d:=d84 E0) (fun x=>Ak lt rfl x) c84 rfl (by kernel_rfl))
theorem v86[Ao]:Ac (EF m86) (Ag ts):=Ac.cut (Ac.decL (okE _ _) v85 (d:=d85 E0) (fun x=>Ak lt rfl x) c85 rfl (by kernel_rfl))
theorem v87[Ao]:Ac (EF m87) (Ag ts):=Ac.cut (Ac.decL (okE _ _) v86 (d:=d86 E0) (fun x=>Ak lt rfl x) c86 rfl (by kernel_rfl))
theorem v88[Ao]:Ac (EF m88) (Ag ts):=Ac.cut (Ac.decL (okE _ _) v87 (d:=d87 E0) (fun x=>Ak lt rfl x) c87 rfl (by kernel_rfl))
theorem v89[Ao]:Ac (EF m89) (Ag ts):=Ac.cut (Ac.decL (okE _ _) v88 (d:=d88 E0) (fun x=>Ak lt rfl x) c88 rfl (by kernel_rfl))
theorem v90[Ao]:Ac (EF m90) (Ag ts):=Ac.cut (Ac.decL (okE _ _) v89 (d:=d89 E0) (fun x=>Ak lt rfl x) c89 rfl (by kernel_rfl))
theorem v91[Ao]:Ac (EF m91) (Ag ts):=Ac.decL (okE _ _) v90 (d:=d90 E0) (fun x=>Ak lt rfl x) c90 rfl (by kernel_rfl)
theorem v92[Ao]:Ac (EF m92) (Ag ts):=Ac.decL (okE _ _) v91 (d:=d91 E0) (fun x=>Ak lt rfl x) c91 rfl (by kernel_rfl)
theorem v93[Ao]:Ac (EF m93) (Ag ts):=Ac.decL (okE _ _) v92 (d:=d92 E0) (fun x=>Ak lt rfl x) c92 rfl (by kernel_rfl)
theorem v94[Ao]:Ac (EF m94) (Ag ts):=Ac.decL (okE _ _) v93 (d:=d93 E0) (fun x=>Ak lt rfl x) c93 rfl (by kernel_rfl)
theorem v95[Ao]:Ac (EF m95) (Ag ts):=Ac.decL (okE _ _) v94 (d:=d94 E0) (fun x=>Ak lt rfl x) c94 rfl (by kernel_rfl)
theorem v96[Ao]:Ac (EF m96) (Ag ts):=Ac.decL (okE _ _) v95 (d:=d95 E0) (fun x=>Ak lt rfl x) c95 rfl (by kernel_rfl)
theorem v97[Ao]:Ac (EF m97) (Ag ts):=Ac.decL (okE _ _) v96 (d:=d96 E0) (fun x=>Ak lt rfl x) c96 rfl (by kernel_rfl)
theorem v98[Ao]:Ac (EF m98) (Ag ts):=Ac.decL (okE _ _) v97 (d:=d97 E0) (fun x=>Ak lt rfl x) c97 rfl (by kernel_rfl)
theorem v99[Ao]:Ac (EF m99) (Ag ts):=Ac.decL (okE _ _) v98 (d:=d98 E0) (fun x=>Ak lt rfl x) c98 rfl (by kernel_rfl)
theorem Adj[Ao]:Ac (EF dN) (Ag ts):=Ac.decL (okE _ _) v99 (d:=d99 E0) (fun x=>Ak lt rfl x) c99 rfl (by kernel_rfl)
theorem Aec[Ao]:Ac (EF cN) (Ag ts):=Ac.decL (okE _ _) Adj (d:=XH E0) (fun x=>Ak lt rfl x) Adg rfl (by kernel_rfl)
theorem readable:∀t∈Tryz.f3.params.toList,Tryz.prog.readableRec t=true∧t<Tryz.prog.types.size:=by
 have h:(Tryz.f3.params.toList.all fun t=>Tryz.prog.readableRec t&&decide (t<Tryz.prog.types.size))=true:=by kernel_rfl
 intro t ht;have q:=List.all_eq_true.mp h t ht;rw[F9,l0]at q;exact q
theorem says(H:Type)(ds:List (DataW H))(hl:ds.length=Tryz.f3.params.toList.length):Rows.memoryBoundsSpec.fn H ds={results:=[.lit (.bool true)],args:=ds}:=by
 have e:Tryz.f3.params.toList.length=2:=by kernel_rfl
 rw[e]at hl;rcases ds with _|⟨d0,_|⟨d1,_|⟨d2,r⟩⟩⟩<;>first|rfl | (simp only[n0,Ae6]at hl;omega)
theorem plain[Ao](xs:List D)(h:QK Tryz.prog Tryz.f3.params.toList xs):Ag ts 101 (.row (.int 0::xs))=.row [.int 1,.bool true]:=by
 obtain⟨hl,hc⟩:=aa (ks:=[.str,.slice 44,.str,.int .i64,.int .i64,.int .i64]) h (by kernel_rfl)
 have K44:(Env.of Tryz.prog).kinds 44=some [.str,.slice 63]:=by kernel_rfl
 have K63:(Env.of Tryz.prog).kinds 63=some [.str,.int .i64,.int .i64,.bool,.bool,.int .i64,.int .i64,.int .i64,.slice 119,.str,.str,.str,.slice 138,.int .i64,.int .i64]:=by kernel_rfl
 have K138:(Env.of Tryz.prog).kinds 138=some [.int .i64,.int .i64,.str]:=by kernel_rfl
 match xs,hl,hc with
 |[v0,v1,v2,v3,v4,v5],_,hc=>
  obtain⟨n3,h3⟩:=(show Et (Env.of Tryz.prog).kinds 9 (.int .i64) v3 from hc 3 _ rfl).toI
  obtain⟨n4,h4⟩:=(show Et (Env.of Tryz.prog).kinds 9 (.int .i64) v4 from hc 4 _ rfl).toI
  obtain⟨n5,h5⟩:=(show Et (Env.of Tryz.prog).kinds 9 (.int .i64) v5 from hc 5 _ rfl).toI
  subst h3;subst h4;subst h5;have h1:Et (Env.of Tryz.prog).kinds 9 (.slice 44) v1:=hc 1 _ rfl;have hb:∀m:Nat,m<len v1→Et (Env.of Tryz.prog).kinds 8 (.slice 63) (cl v1 m 1):=fun m hm=>h1.cell (i:=(m:Int)) (j:=1) K44 (by omega) (by omega) rfl
  have nz:∀{n e:Nat}{d:D},Et (Env.of Tryz.prog).kinds (n+1) (.slice e) d→d.isNil=true→len d=0:=fun{n e d} hd q=>by
   obtain⟨nl,rows,e,z,_⟩:=hd;rw[e]at q ⊢;rw[z q];rfl
  have h12:∀m:Nat,m<len v1→∀i:Nat,i<len (cl v1 m 1)→Et (Env.of Tryz.prog).kinds 7 (.slice 138) (cl (cl v1 m 1) i 12):=fun m hm i hi=>(hb m hm).cell (i:=(i:Int)) (j:=12) K63 (by omega) (by omega) rfl
  have T:∀m:Nat,m<len v1→FK (cl v1 m 1):=fun m hm=>by
   have hb:=hb m hm
   refine⟨fun i hi=>(hb.cell (i:=(i:Int)) (j:=1) K63 (by omega) (by omega) rfl).toI,fun i hi=>(hb.cell (i:=(i:Int)) (j:=2) K63 (by omega) (by omega) rfl).toI,
    fun i hi=>(hb.cell (i:=(i:Int)) (j:=3) K63 (by omega) (by omega) rfl).toB,fun i hi=>(hb.cell (i:=(i:Int)) (j:=4) K63 (by omega) (by omega) rfl).toB,
    fun i hi=>(hb.cell (i:=(i:Int)) (j:=5) K63 (by omega) (by omega) rfl).toI,fun i hi=>(hb.cell (i:=(i:Int)) (j:=6) K63 (by omega) (by omega) rfl).toI,
    fun i hi=>(hb.cell (i:=(i:Int)) (j:=7) K63 (by omega) (by omega) rfl).toI,fun i hi=>(hb.cell (i:=(i:Int)) (j:=13) K63 (by omega) (by omega) rfl).toI,
    fun i hi=>(hb.cell (i:=(i:Int)) (j:=14) K63 (by omega) (by omega) rfl).toI,fun i hi q=>?_,fun i hi j hj=>?_⟩
   ·have h8:Et (Env.of Tryz.prog).kinds 7 (.slice 119) (cl (cl v1 m 1) i 8):=hb.cell (i:=(i:Int)) (j:=8) K63 (by omega) (by omega) rfl
    exact nz h8 q
   ·have h12:=h12 m hm i hi;exact⟨(h12.cell (i:=(j:Int)) (j:=0) K138 (by omega) (by omega) rfl).toI,(h12.cell (i:=(j:Int)) (j:=1) K138 (by omega) (by omega) rfl).toI⟩
  exact law T ⟨h1.wd K44,fun q=>nz h1 q,fun m hm=>(hb m hm).wd K63,fun m hm q=>nz (hb m hm) q,fun m hm i hi q=>nz (h12 m hm i hi) q⟩
theorem lifted(os:Os)(started:os.Started)(H:Type)(enc:TypeId×Value→H) :
  ReturnsInHanded {} Tryz.checked os 3 .any (Rows.memoryBoundsSpec.pre6 enc Tryz.prog Tryz.f3 Rows.memoryBoundsRow.domain false) (Rows.memoryBoundsSpec.post enc Tryz.prog Tryz.f3 false true false false):=by
 obtain⟨inst⟩:=bh
 exact Sj (C:=Tryz.checked) (d:=XW E0) (T:=ZP) (keys:=[8]) (N:=20000) (tb:=4) (L:=[44,63,119,138]) own started (by kernel_rfl) Tryz.func3
  (ChangeSpec.witness6 (enc:=enc) (C:=Tryz.checked) false ⟨#[],#[.agg #[.string .empty,.slice none 0 0,.string .empty],.agg #[.int .i64 0,.int .i64 0,.int .i64 0]],[]⟩ 8 (by kernel_rfl) (by kernel_rfl) (by kernel_rfl) (by kernel_rfl))
  (by kernel_rfl) readable rfl (says H) (by kernel_rfl) (by kernel_rfl) (okE _ _) Aec (fun x=>Ak lt rfl x) Acj.chk (by kernel_rfl) rfl (by kernel_rfl) plain rfl
theorem over:Rows.memoryBoundsRow.holds Tryz.pinned (OpenSpec.ofChange Rows.memoryBoundsSpec):=
 OpenClaim.holds_of_wide 3 Tryz.f3 rfl rfl rfl rfl rfl rfl rfl ⟨rfl,rfl,rfl,rfl,rfl⟩ rfl rfl rfl rfl rfl (by kernel_rfl) Tryz.func3 (by kernel_rfl)
  (of_decide_eq_true (by kernel_rfl)) (by unfold Func.isWrapper;first | (rw[if_pos (by decide +kernel)];kernel_rfl) | (rw[if_neg (by decide +kernel)];exact⟨rfl,rfl⟩))
  (fun os started H enc _=>lifted os started H enc)
theorem proved:Rows.MemoryBoundsSaid:=over
end Go.Proofs.YtojjaeaohjlfnaaGreat.memoryBounds

