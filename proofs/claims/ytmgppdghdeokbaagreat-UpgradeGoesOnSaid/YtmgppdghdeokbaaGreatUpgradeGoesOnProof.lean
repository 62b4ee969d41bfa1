/- What is proved: the given statement Rows.UpgradeGoesOnSaid: at every input the law UpgradeGoesOn returns true and leaves what its arguments reach as it was. Conditions: none beyond those that the given row itself states. The road: the functions that the law reaches are turned into plain functions over data, which the kernel checks; the plain law is proved of those. -/
import Derived.Test.YtmgppdghdeokbaaGreatRows
import Derived.Test.YtmgppdghdeokbaaGreatChecked
import Derived.Test.YtmgppdghdeokbaaGreatUpgradeGoesOnDecH
import Derived.Test.YtmgppdghdeokbaaGreatUpgradeGoesOnPlain
import Derived.KernelRfl
import Derived.JoinedOf
import Derived.Handed
set_option linter.unusedVariables false
set_option linter.unusedSectionVars false
set_option linter.unusedSimpArgs false
namespace Go.Proofs.YtmgppdghdeokbaaGreat.upgradeGoesOn
open Go.AE Ug
theorem own:ownKnob Tryz.prog.godebug=none:=by kernel_rfl
theorem v0 [Ai]:Ad (EF m0) (Ak ts):=(w41) (Ak ts)
theorem v1 [Ai]:Ad (EF m1) (Ak ts):=Ad.decL (okE _ _) v0 (d:=d0 E0) (fun x=>An lt rfl x) c0 rfl (by kernel_rfl)
theorem v2 [Ai]:Ad (EF m2) (Ak ts):=Ad.decL (okE _ _) v1 (d:=d1 E0) (fun x=>An lt rfl x) c1 rfl (by kernel_rfl)
theorem v3 [Ai]:Ad (EF m3) (Ak ts):=Ad.decL (okE _ _) v2 (d:=d2 E0) (fun x=>An lt rfl x) c2 rfl (by kernel_rfl)
theorem v4 [Ai]:Ad (EF m4) (Ak ts):=Ad.decL (okE _ _) v3 (d:=d3 E0) (fun x=>An lt rfl x) c3 rfl (by kernel_rfl)
theorem v5 [Ai]:Ad (EF m5) (Ak ts):=Ad.decL (okE _ _) v4 (d:=d4 E0) (fun x=>An lt rfl x) c4 rfl (by kernel_rfl)
theorem v6 [Ai]:Ad (EF m6) (Ak ts):=Ad.decL (okE _ _) v5 (d:=d5 E0) (fun x=>An lt rfl x) c5 rfl (by kernel_rfl)
theorem v7 [Ai]:Ad (EF m7) (Ak ts):=Ad.decL (okE _ _) v6 (d:=d6 E0) (fun x=>An lt rfl x) c6 rfl (by kernel_rfl)
theorem v8 [Ai]:Ad (EF m8) (Ak ts):=Ad.decL (okE _ _) v7 (d:=d7 E0) (fun x=>An lt rfl x) c7 rfl (by kernel_rfl)
theorem v9 [Ai]:Ad (EF m9) (Ak ts):=Ad.decL (okE _ _) v8 (d:=d8 E0) (fun x=>An lt rfl x) c8 rfl (by kernel_rfl)
theorem v10 [Ai]:Ad (EF m10) (Ak ts):=Ad.decL (okE _ _) v9 (d:=d9 E0) (fun x=>An lt rfl x) c9 rfl (by kernel_rfl)
theorem v11 [Ai]:Ad (EF m11) (Ak ts):=Ad.decL (okE _ _) v10 (d:=d10 E0) (fun x=>An lt rfl x) c10 rfl (by kernel_rfl)
theorem v12 [Ai]:Ad (EF m12) (Ak ts):=Ad.decL (okE _ _) v11 (d:=d11 E0) (fun x=>An lt rfl x) c11 rfl (by kernel_rfl)
theorem v13 [Ai]:Ad (EF m13) (Ak ts):=Ad.decL (okE _ _) v12 (d:=d12 E0) (fun x=>An lt rfl x) c12 rfl (by kernel_rfl)
theorem v14 [Ai]:Ad (EF m14) (Ak ts):=Ad.decL (okE _ _) v13 (d:=d13 E0) (fun x=>An lt rfl x) c13 rfl (by kernel_rfl)
theorem v15 [Ai]:Ad (EF m15) (Ak ts):=Ad.decL (okE _ _) v14 (d:=d14 E0) (fun x=>An lt rfl x) c14 rfl (by kernel_rfl)
theorem v16 [Ai]:Ad (EF m16) (Ak ts):=Ad.decL (okE _ _) v15 (d:=d15 E0) (fun x=>An lt rfl x) c15 rfl (by kernel_rfl)
theorem v17 [Ai]:Ad (EF m17) (Ak ts):=Ad.decL (okE _ _) v16 (d:=d16 E0) (fun x=>An lt rfl x) c16 rfl (by kernel_rfl)
theorem v18 [Ai]:Ad (EF m18) (Ak ts):=Ad.decL (okE _ _) v17 (d:=d17 E0) (fun x=>An lt rfl x) c17 rfl (by kernel_rfl)
theorem v19 [Ai]:Ad (EF m19) (Ak ts):=Ad.decL (okE _ _) v18 (d:=d18 E0) (fun x=>An lt rfl x) c18 rfl (by kernel_rfl)
theorem v20 [Ai]:Ad (EF m20) (Ak ts):=Ad.decL (okE _ _) v19 (d:=d19 E0) (fun x=>An lt rfl x) c19 rfl (by kernel_rfl)
theorem v21 [Ai]:Ad (EF m21) (Ak ts):=Ad.decL (okE _ _) v20 (d:=d20 E0) (fun x=>An lt rfl x) c20 rfl (by kernel_rfl)
theorem v22 [Ai]:Ad (EF m22) (Ak ts):=Ad.decL (okE _ _) v21 (d:=d21 E0) (fun x=>An lt rfl x) c21 rfl (by kernel_rfl)
theorem v23 [Ai]:Ad (EF m23) (Ak ts):=Ad.decL (okE _ _) v22 (d:=d22 E0) (fun x=>An lt rfl x) c22 rfl (by kernel_rfl)
theorem v24 [Ai]:Ad (EF m24) (Ak ts):=Ad.decL (okE _ _) v23 (d:=d23 E0) (fun x=>An lt rfl x) c23 rfl (by kernel_rfl)
theorem v25 [Ai]:Ad (EF m25) (Ak ts):=Ad.decL (okE _ _) v24 (d:=d24 E0) (fun x=>An lt rfl x) c24 rfl (by kernel_rfl)
theorem v26 [Ai]:Ad (EF m26) (Ak ts):=Ad.decL (okE _ _) v25 (d:=d25 E0) (fun x=>An lt rfl x) c25 rfl (by kernel_rfl)
theorem v27 [Ai]:Ad (EF m27) (Ak ts):=Ad.decL (okE _ _) v26 (d:=d26 E0) (fun x=>An lt rfl x) c26 rfl (by kernel_rfl)
theorem v28 [Ai]:Ad (EF m28) (Ak ts):=Ad.decL (okE _ _) v27 (d:=d27 E0) (fun x=>An lt rfl x) c27 rfl (by kernel_rfl)
theorem v29 [Ai]:Ad (EF m29) (Ak ts):=Ad.decL (okE _ _) v28 (d:=d28 E0) (fun x=>An lt rfl x) c28 rfl (by kernel_rfl)
theorem v30 [Ai]:Ad (EF m30) (Ak ts):=Ad.decL (okE _ _) v29 (d:=d29 E0) (fun x=>An lt rfl x) c29 rfl (by kernel_rfl)
theorem v31 [Ai]:Ad (EF m31) (Ak ts):=Ad.decL (okE _ _) v30 (d:=d30 E0) (fun x=>An lt rfl x) c30 rfl (by kernel_rfl)
theorem v32 [Ai]:Ad (EF m32) (Ak ts):=Ad.decL (okE _ _) v31 (d:=d31 E0) (fun x=>An lt rfl x) c31 rfl (by kernel_rfl)
theorem v33 [Ai]:Ad (EF m33) (Ak ts):=Ad.decL (okE _ _) v32 (d:=d32 E0) (fun x=>An lt rfl x) c32 rfl (by kernel_rfl)
theorem v34 [Ai]:Ad (EF m34) (Ak ts):=Ad.decL (okE _ _) v33 (d:=d33 E0) (fun x=>An lt rfl x) c33 rfl (by kernel_rfl)
theorem v35 [Ai]:Ad (EF m35) (Ak ts):=Ad.decL (okE _ _) v34 (d:=d34 E0) (fun x=>An lt rfl x) c34 rfl (by kernel_rfl)
theorem v36 [Ai]:Ad (EF m36) (Ak ts):=Ad.decL (okE _ _) v35 (d:=d35 E0) (fun x=>An lt rfl x) c35 rfl (by kernel_rfl)
theorem v37 [Ai]:Ad (EF m37) (Ak ts):=Ad.decL (okE _ _) v36 (d:=d36 E0) (fun x=>An lt rfl x) c36 rfl (by kernel_rfl)
theorem v38 [Ai]:Ad (EF m38) (Ak ts):=Ad.decL (okE _ _) v37 (d:=d37 E0) (fun x=>An lt rfl x) c37 rfl (by kernel_rfl)
theorem v39 [Ai]:Ad (EF m39) (Ak ts):=Ad.decL (okE _ _) v38 (d:=d38 E0) (fun x=>An lt rfl x) c38 rfl (by kernel_rfl)
theorem v40 [Ai]:Ad (EF m40) (Ak ts):=Ad.decL (okE _ _) v39 (d:=d39 E0) (fun x=>An lt rfl x) c39 rfl (by kernel_rfl)
theorem v41 [Ai]:Ad (EF m41) (Ak ts):=Ad.decL (okE _ _) v40 (d:=d40 E0) (fun x=>An lt rfl x) c40 rfl (by kernel_rfl)
theorem v42 [Ai]:Ad (EF m42) (Ak ts):=Ad.decL (okE _ _) v41 (d:=d41 E0) (fun x=>An lt rfl x) c41 rfl (by kernel_rfl)
theorem v43 [Ai]:Ad (EF m43) (Ak ts):=Ad.decL (okE _ _) v42 (d:=d42 E0) (fun x=>An lt rfl x) c42 rfl (by kernel_rfl)
theorem v44 [Ai]:Ad (EF m44) (Ak ts):=Ad.decL (okE _ _) v43 (d:=d43 E0) (fun x=>An lt rfl x) c43 rfl (by kernel_rfl)
theorem v45 [Ai]:Ad (EF m45) (Ak ts):=Ad.decL (okE _ _) v44 (d:=d44 E0) (fun x=>An lt rfl x) c44 rfl (by kernel_rfl)
theorem v46 [Ai]:Ad (EF m46) (Ak ts):=Ad.decL (okE _ _) v45 (d:=d45 E0) (fun x=>An lt rfl x) c45 rfl (by kernel_rfl)
theorem v47 [Ai]:Ad (EF m47) (Ak ts):=Ad.decL (okE _ _) v46 (d:=d46 E0) (fun x=>An lt rfl x) c46 rfl (by kernel_rfl)
theorem v48 [Ai]:Ad (EF m48) (Ak ts):=Ad.decL (okE _ _) v47 (d:=d47 E0) (fun x=>An lt rfl x) c47 rfl (by kernel_rfl)
theorem v49 [Ai]:Ad (EF m49) (Ak ts):=Ad.decL (okE _ _) v48 (d:=d48 E0) (fun x=>An lt rfl x) c48 rfl (by kernel_rfl)
theorem v50 [Ai]:Ad (EF m50) (Ak ts):=Ad.decL (okE _ _) v49 (d:=d49 E0) (fun x=>An lt rfl x) c49 rfl (by kernel_rfl)
theorem v51 [Ai]:Ad (EF m51) (Ak ts):=Ad.decL (okE _ _) v50 (d:=d50 E0) (fun x=>An lt rfl x) c50 rfl (by kernel_rfl)
theorem v52 [Ai]:Ad (EF m52) (Ak ts):=Ad.decL (okE _ _) v51 (d:=d51 E0) (fun x=>An lt rfl x) c51 rfl (by kernel_rfl)
theorem v53 [Ai]:Ad (EF m53) (Ak ts):=Ad.decL (okE _ _) v52 (d:=d52 E0) (fun x=>An lt rfl x) c52 rfl (by kernel_rfl)
theorem v54 [Ai]:Ad (EF m54) (Ak ts):=Ad.decL (okE _ _) v53 (d:=d53 E0) (fun x=>An lt rfl x) c53 rfl (by kernel_rfl)
theorem v55 [Ai]:Ad (EF m55) (Ak ts):=Ad.decL (okE _ _) v54 (d:=d54 E0) (fun x=>An lt rfl x) c54 rfl (by kernel_rfl)
theorem v56 [Ai]:Ad (EF m56) (Ak ts):=Ad.decL (okE _ _) v55 (d:=d55 E0) (fun x=>An lt rfl x) c55 rfl (by kernel_rfl)
theorem v57 [Ai]:Ad (EF m57) (Ak ts):=Ad.decL (okE _ _) v56 (d:=d56 E0) (fun x=>An lt rfl x) c56 rfl (by kernel_rfl)
theorem v58 [Ai]:Ad (EF m58) (Ak ts):=Ad.decL (okE _ _) v57 (d:=d57 E0) (fun x=>An lt rfl x) c57 rfl (by kernel_rfl)
theorem v59 [Ai]:Ad (EF m59) (Ak ts):=Ad.decL (okE _ _) v58 (d:=d58 E0) (fun x=>An lt rfl x) c58 rfl (by kernel_rfl)
theorem v60 [Ai]:Ad (EF m60) (Ak ts):=Ad.decL (okE _ _) v59 (d:=d59 E0) (fun x=>An lt rfl x) c59 rfl (by kernel_rfl)
theorem v61 [Ai]:Ad (EF m61) (Ak ts):=Ad.decL (okE _ _) v60 (d:=d60 E0) (fun x=>An lt rfl x) c60 rfl (by kernel_rfl)
theorem v62 [Ai]:Ad (EF m62) (Ak ts):=Ad.decL (okE _ _) v61 (d:=d61 E0) (fun x=>An lt rfl x) c61 rfl (by kernel_rfl)
theorem v63 [Ai]:Ad (EF m63) (Ak ts):=Ad.decL (okE _ _) v62 (d:=d62 E0) (fun x=>An lt rfl x) c62 rfl (by kernel_rfl)
theorem v64 [Ai]:Ad (EF m64) (Ak ts):=Ad.decL (okE _ _) v63 (d:=d63 E0) (fun x=>An lt rfl x) c63 rfl (by kernel_rfl)
theorem v65 [Ai]:Ad (EF m65) (Ak ts):=Ad.decL (okE _ _) v64 (d:=d64 E0) (fun x=>An lt rfl x) c64 rfl (by kernel_rfl)
theorem v66 [Ai]:Ad (EF m66) (Ak ts):=Ad.decL (okE _ _) v65 (d:=d65 E0) (fun x=>An lt rfl x) c65 rfl (by kernel_rfl)
theorem v67 [Ai]:Ad (EF m67) (Ak ts):=Ad.decL (okE _ _) v66 (d:=d66 E0) (fun x=>An lt rfl x) c66 rfl (by kernel_rfl)
theorem v68 [Ai]:Ad (EF m68) (Ak ts):=Ad.decL (okE _ _) v67 (d:=d67 E0) (fun x=>An lt rfl x) c67 rfl (by kernel_rfl)
theorem v69 [Ai]:Ad (EF m69) (Ak ts):=Ad.decL (okE _ _) v68 (d:=d68 E0) (fun x=>An lt rfl x) c68 rfl (by kernel_rfl)
theorem v70 [Ai]:Ad (EF m70) (Ak ts):=Ad.decL (okE _ _) v69 (d:=d69 E0) (fun x=>An lt rfl x) c69 rfl (by kernel_rfl)
theorem v71 [Ai]:Ad (EF m71) (Ak ts):=Ad.decL (okE _ _) v70 (d:=d70 E0) (fun x=>An lt rfl x) c70 rfl (by kernel_rfl)
theorem v72 [Ai]:Ad (EF m72) (Ak ts):=Ad.decL (okE _ _) v71 (d:=d71 E0) (fun x=>An lt rfl x) c71 rfl (by kernel_rfl)
theorem v73 [Ai]:Ad (EF m73) (Ak ts):=Ad.decL (okE _ _) v72 (d:=d72 E0) (fun x=>An lt rfl x) c72 rfl (by kernel_rfl)
theorem v74 [Ai]:Ad (EF m74) (Ak ts):=Ad.decL (okE _ _) v73 (d:=d73 E0) (fun x=>An lt rfl x) c73 rfl (by kernel_rfl)
theorem v75 [Ai]:Ad (EF m75) (Ak ts):=Ad.decL (okE _ _) v74 (d:=d74 E0) (fun x=>An lt rfl x) c74 rfl (by kernel_rfl)
theorem v76 [Ai]:Ad (EF m76) (Ak ts):=Ad.decL (okE _ _) v75 (d:=d75 E0) (fun x=>An lt rfl x) c75 rfl (by kernel_rfl)
theorem v77 [Ai]:Ad (EF m77) (Ak ts):=Ad.decL (okE _ _) v76 (d:=d76 E0) (fun x=>An lt rfl x) c76 rfl (by kernel_rfl)
theorem v78 [Ai]:Ad (EF m78) (Ak ts):=Ad.decL (okE _ _) v77 (d:=d77 E0) (fun x=>An lt rfl x) c77 rfl (by kernel_rfl)
theorem v79 [Ai]:Ad (EF m79) (Ak ts):=Ad.decL (okE _ _) v78 (d:=d78 E0) (fun x=>An lt rfl x) c78 rfl (by kernel_rfl)
theorem v80 [Ai]:Ad (EF m80) (Ak ts):=Ad.decL (okE _ _) v79 (d:=d79 E0) (fun x=>An lt rfl x) c79 rfl (by kernel_rfl)
theorem v81 [Ai]:Ad (EF m81) (Ak ts):=Ad.decL (okE _ _) v80 (d:=d80 E0) (fun x=>An lt rfl x) c80 rfl (by kernel_rfl)
theorem v82 [Ai]:Ad (EF m82) (Ak ts):=Ad.decL (okE _ _) v81 (d:=d81 E0) (fun x=>An lt rfl x) c81 rfl (by kernel_rfl)
theorem v83 [Ai]:Ad (EF m83) (Ak ts):=Ad.decL (okE _ _) v82 (d:=d82 E0) (fun x=>An lt rfl x) c82 rfl (by kernel_rfl)
theorem v84 [Ai]:Ad (EF m84) (Ak ts):=Ad.decL (okE _ _) v83 (d:=d83 E0) (fun x=>An lt rfl x) c83 rfl (by kernel_rfl)
theorem v85 [Ai]:Ad (EF m85) (Ak ts):=Ad.decL (okE _ _) v84 (d:=d84 E0) (fun x=>An lt rfl x) c84 rfl (by kernel_rfl)
theorem v86 [Ai]:Ad (EF m86) (Ak ts):=Ad.decL (okE _ _) v85 (d:=d85 E0) (fun x=>An lt rfl x) c85 rfl (by kernel_rfl)
theorem v87 [Ai]:Ad (EF m87) (Ak ts):=Ad.decL (okE _ _) v86 (d:=d86 E0) (fun x=>An lt rfl x) c86 rfl (by kernel_rfl)
theorem v88 [Ai]:Ad (EF m88) (Ak ts):=Ad.decL (okE _ _) v87 (d:=d87 E0) (fun x=>An lt rfl x) c87 rfl (by kernel_rfl)
theorem v89 [Ai]:Ad (EF m89) (Ak ts):=Ad.decL (okE _ _) v88 (d:=d88 E0) (fun x=>An lt rfl x) c88 rfl (by kernel_rfl)
theorem v90 [Ai]:Ad (EF m90) (Ak ts):=Ad.decL (okE _ _) v89 (d:=d89 E0) (fun x=>An lt rfl x) c89 rfl (by kernel_rfl)
theorem readable:∀t∈Tryz.f4.params.toList,Tryz.prog.readableRec t=true∧t<Tryz.prog.types.size:=by
 have h:(Tryz.f4.params.toList.all fun t=>Tryz.prog.readableRec t&&decide (t<Tryz.prog.types.size))=true:=by kernel_rfl
 intro t a;have q:=List.all_eq_true.mp h t a;rw [B1,F4] at q;exact q
theorem says (H:Type) (a:List (DataW H)) (hl:a.length=Tryz.f4.params.toList.length):Rows.upgradeGoesOnSpec.fn H a={results:=[.lit (.bool true)],args:=a}:=by
 have e:Tryz.f4.params.toList.length=4:=by kernel_rfl
 rw [e] at hl;rcases a with _|⟨d0,_|⟨d1,_|⟨d2,_|⟨d3,_|⟨d4,r⟩⟩⟩⟩⟩<;>first|rfl | (simp only [F2,List.length_nil] at hl;omega)
theorem plain [Ai] (p:List D) (h:QI Tryz.prog Tryz.f4.params.toList p):Ak ts 90 (.row (.int 0::p))=.row [.int 1,.bool true]:=by
 obtain ⟨hl,d⟩:=aI (ks:=[.str,.slice 98,.slice 96,.slice 101,.str,.slice 98,.slice 96,.slice 101,.slice 103,.slice 188,.slice 3,.slice 72]) h (by kernel_rfl)
 have g:(Env.of Tryz.prog).kinds 98=some [.str,.bool,.int .i64]:=by kernel_rfl
 have k:(Env.of Tryz.prog).kinds 96=some [.str,.int .i64]:=by kernel_rfl
 have c:(Env.of Tryz.prog).kinds 101=some [.str,.str,.int .i64,.str,.str,.str,.int .i64,.int .i64,.int .i64]:=by kernel_rfl
 have l:(Env.of Tryz.prog).kinds 188=some [.str,.str,.int .i64]:=by kernel_rfl
 have C:(Env.of Tryz.prog).kinds 3=some [.int .i64]:=by kernel_rfl
 have m:(Env.of Tryz.prog).kinds 72=some [.int .i64,.int .i64,.int .i64,.str,.str]:=by kernel_rfl
 match p,hl,d with
 |[v0,v1,v2,v3,v4,v5,v6,v7,v8,v9,v10,v11],_,d=>
  have n:DN (Env.of Tryz.prog).kinds 9 (.slice 98) v1:=d 1 _ rfl;have r:DN (Env.of Tryz.prog).kinds 9 (.slice 96) v2:=d 2 _ rfl;have s:DN (Env.of Tryz.prog).kinds 9 (.slice 101) v3:=d 3 _ rfl;have t:DN (Env.of Tryz.prog).kinds 9 (.slice 98) v5:=d 5 _ rfl;have u:DN (Env.of Tryz.prog).kinds 9 (.slice 96) v6:=d 6 _ rfl;have x:DN (Env.of Tryz.prog).kinds 9 (.slice 101) v7:=d 7 _ rfl;have B:DN (Env.of Tryz.prog).kinds 9 (.slice 103) v8:=d 8 _ rfl;have y:DN (Env.of Tryz.prog).kinds 9 (.slice 188) v9:=d 9 _ rfl;have A:DN (Env.of Tryz.prog).kinds 9 (.slice 3) v10:=d 10 _ rfl;have o:DN (Env.of Tryz.prog).kinds 9 (.slice 72) v11:=d 11 _ rfl
  have nil:∀{e:TypeId} {v:D},DN (Env.of Tryz.prog).kinds 9 (.slice e) v→Bf v:=fun f q=>by
   obtain ⟨nl,rows,rfl,z,_⟩:=f;exact z q
  have a:∀{e:TypeId} {v:D},DN (Env.of Tryz.prog).kinds 9 (.slice e) v→IsL v:=fun f=>by
   obtain ⟨nl,rows,rfl,z,_⟩:=f;exact ⟨nl,rows,rfl⟩
  have S:∀v:D,DN (Env.of Tryz.prog).kinds 9 (.slice 101) v→We v:=fun v f i hi=>
   ⟨(f.cell (i:=(i:Int)) (j:=2) c (by omega) (by omega) rfl).toI,(f.cell (i:=(i:Int)) (j:=6) c (by omega) (by omega) rfl).toI,(f.cell (i:=(i:Int)) (j:=7) c (by omega) (by omega) rfl).toI,(f.cell (i:=(i:Int)) (j:=8) c (by omega) (by omega) rfl).toI⟩
  have O:∀v:D,DN (Env.of Tryz.prog).kinds 9 (.slice 98) v→PI v:=fun v f i hi=>by
    obtain ⟨b,n⟩:=(f.cell (i:=(i:Int)) (j:=1) g (by omega) (by omega) rfl).toB
    obtain ⟨w,E⟩:=(f.cell (i:=(i:Int)) (j:=2) g (by omega) (by omega) rfl).toI
    exact ⟨b,w,n,E⟩
  exact law (S v3 s) (S v7 x) (fun i hi=>(y.cell (i:=(i:Int)) (j:=2) l (by omega) (by omega) rfl).toI)
   (O v1 n) (O v5 t)
   (fun i hi=>(r.cell (i:=(i:Int)) (j:=1) k (by omega) (by omega) rfl).toI)
   (fun i hi=>(u.cell (i:=(i:Int)) (j:=1) k (by omega) (by omega) rfl).toI)
   (fun i hi=>(A.cell (i:=(i:Int)) (j:=0) C (by omega) (by omega) rfl).toI)
   (fun i hi=>⟨(o.cell (i:=(i:Int)) (j:=1) m (by omega) (by omega) rfl).toI,(o.cell (i:=(i:Int)) (j:=2) m (by omega) (by omega) rfl).toI⟩)
   (nil n) (nil r) (nil s) (a n) (a r) (a s) (nil t) (nil u) (nil x) (nil B) (nil y) (a t) (a u) (a x) (a B) (a y)
theorem lifted (os:Os) (a:os.Started) (H:Type) (enc:TypeId×Value→H) :
  ReturnsInHanded {} Tryz.checked os 4 .any (Rows.upgradeGoesOnSpec.pre6 enc Tryz.prog Tryz.f4 Rows.upgradeGoesOnRow.domain false) (Rows.upgradeGoesOnSpec.post enc Tryz.prog Tryz.f4 false true false false):=by
 obtain ⟨inst⟩:=bQ
 exact R7 (C:=Tryz.checked) (d:=d90 E0) (T:=t90) (keys:=[7,17,33,1000014,1000028,1000029,1000049]) (N:=20000) (tb:=4) (L:=[98,96,101,103,188,3,72]) own a (by kernel_rfl) Tryz.func4
  (ChangeSpec.witness6 (enc:=enc) (C:=Tryz.checked) false ⟨#[],#[.agg #[.string .empty,.slice none 0 0,.slice none 0 0,.slice none 0 0],.agg #[.string .empty,.slice none 0 0,.slice none 0 0,.slice none 0 0,.slice none 0 0,.slice none 0 0],.slice none 0 0,.slice none 0 0],[]⟩ 8 (by kernel_rfl) (by kernel_rfl) (by kernel_rfl) (by kernel_rfl))
  (by kernel_rfl) readable rfl (says H) (by kernel_rfl) (by kernel_rfl) (okE _ _) v90 (fun x=>An lt rfl x) c90.chk (by kernel_rfl) rfl (by kernel_rfl) plain
theorem over:Rows.upgradeGoesOnRow.holds Tryz.pinned (OpenSpec.ofChange Rows.upgradeGoesOnSpec):=
 OpenClaim.holds_of_wide 4 Tryz.f4 rfl rfl rfl rfl rfl rfl rfl ⟨rfl,rfl,rfl,rfl,rfl⟩ rfl rfl rfl rfl rfl (by kernel_rfl) Tryz.func4 (by kernel_rfl)
  (hZ (by kernel_rfl)) (by unfold Func.isWrapper;first | (rw [if_pos (by decide +kernel)];kernel_rfl) | (rw [if_neg (by decide +kernel)];exact ⟨rfl,rfl⟩))
  (fun os a H c _=>lifted os a H c)
theorem proved:Rows.UpgradeGoesOnSaid:=over
end Go.Proofs.YtmgppdghdeokbaaGreat.upgradeGoesOn

