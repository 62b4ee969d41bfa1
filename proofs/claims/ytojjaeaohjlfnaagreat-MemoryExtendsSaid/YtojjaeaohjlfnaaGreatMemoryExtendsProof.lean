/- What is proved: the given statement Rows.MemoryExtendsSaid: at every input the law MemoryExtends returns true and leaves what its arguments reach as it was. Conditions: none beyond those that the given row itself states. The road: the functions that the law reaches are turned into plain functions over data, which the kernel checks; the plain law is proved of those. -/
import Derived.Test.YtojjaeaohjlfnaaGreatRows
import Derived.Test.YtojjaeaohjlfnaaGreatChecked
import Derived.Test.YtojjaeaohjlfnaaGreatMemoryExtendsDecA
import Derived.Test.YtojjaeaohjlfnaaGreatMemoryExtendsPlain
import Derived.KernelRfl
import Derived.JoinedOf
import Derived.Handed
set_option linter.unusedVariables false
set_option linter.unusedSectionVars false
set_option linter.unusedSimpArgs false
namespace Go.Proofs.YtojjaeaohjlfnaaGreat.memoryExtends
open Go.AE Mx
theorem own:ownKnob Tryz.prog.godebug=none:=by kernel_rfl
theorem v0 [Ap]:Af (EF m0) (Am ts):=(fun G=>(Af.cons (U:=Hz) (w18 G) (w0 G):Af (Env.ofS Tryz.prog [o18] []) G)) (Am ts)
theorem v1 [Ap]:Af (EF m1) (Am ts):=Af.decL (okE _ _) v0 (d:=d0 E0) (fun x=>Ao lt rfl x) c0 rfl (by kernel_rfl)
theorem v2 [Ap]:Af (EF m2) (Am ts):=Af.decL (okE _ _) v1 (d:=d1 E0) (fun x=>Ao lt rfl x) c1 rfl (by kernel_rfl)
theorem v3 [Ap]:Af (EF m3) (Am ts):=Af.decL (okE _ _) v2 (d:=d2 E0) (fun x=>Ao lt rfl x) c2 rfl (by kernel_rfl)
theorem v4 [Ap]:Af (EF m4) (Am ts):=Af.decL (okE _ _) v3 (d:=d3 E0) (fun x=>Ao lt rfl x) c3 rfl (by kernel_rfl)
theorem v5 [Ap]:Af (EF m5) (Am ts):=Af.decL (okE _ _) v4 (d:=d4 E0) (fun x=>Ao lt rfl x) c4 rfl (by kernel_rfl)
theorem v6 [Ap]:Af (EF m6) (Am ts):=Af.decL (okE _ _) v5 (d:=d5 E0) (fun x=>Ao lt rfl x) c5 rfl (by kernel_rfl)
theorem v7 [Ap]:Af (EF m7) (Am ts):=Af.decL (okE _ _) v6 (d:=d6 E0) (fun x=>Ao lt rfl x) c6 rfl (by kernel_rfl)
theorem v8 [Ap]:Af (EF m8) (Am ts):=Af.decL (okE _ _) v7 (d:=d7 E0) (fun x=>Ao lt rfl x) c7 rfl (by kernel_rfl)
theorem v9 [Ap]:Af (EF m9) (Am ts):=Af.decL (okE _ _) v8 (d:=d8 E0) (fun x=>Ao lt rfl x) c8 rfl (by kernel_rfl)
theorem v10 [Ap]:Af (EF m10) (Am ts):=Af.decL (okE _ _) v9 (d:=d9 E0) (fun x=>Ao lt rfl x) c9 rfl (by kernel_rfl)
theorem v11 [Ap]:Af (EF m11) (Am ts):=Af.decL (okE _ _) v10 (d:=d10 E0) (fun x=>Ao lt rfl x) c10 rfl (by kernel_rfl)
theorem v12 [Ap]:Af (EF m12) (Am ts):=Af.decL (okE _ _) v11 (d:=d11 E0) (fun x=>Ao lt rfl x) c11 rfl (by kernel_rfl)
theorem v13 [Ap]:Af (EF m13) (Am ts):=Af.decL (okE _ _) v12 (d:=d12 E0) (fun x=>Ao lt rfl x) c12 rfl (by kernel_rfl)
theorem v14 [Ap]:Af (EF m14) (Am ts):=Af.decL (okE _ _) v13 (d:=d13 E0) (fun x=>Ao lt rfl x) c13 rfl (by kernel_rfl)
theorem v15 [Ap]:Af (EF m15) (Am ts):=Af.decL (okE _ _) v14 (d:=d14 E0) (fun x=>Ao lt rfl x) c14 rfl (by kernel_rfl)
theorem v16 [Ap]:Af (EF m16) (Am ts):=Af.decL (okE _ _) v15 (d:=d15 E0) (fun x=>Ao lt rfl x) c15 rfl (by kernel_rfl)
theorem v17 [Ap]:Af (EF m17) (Am ts):=Af.decL (okE _ _) v16 (d:=d16 E0) (fun x=>Ao lt rfl x) c16 rfl (by kernel_rfl)
theorem v18 [Ap]:Af (EF m18) (Am ts):=Af.decL (okE _ _) v17 (d:=d17 E0) (fun x=>Ao lt rfl x) c17 rfl (by kernel_rfl)
theorem v19 [Ap]:Af (EF m19) (Am ts):=Af.decL (okE _ _) v18 (d:=d18 E0) (fun x=>Ao lt rfl x) c18 rfl (by kernel_rfl)
theorem v20 [Ap]:Af (EF m20) (Am ts):=Af.decL (okE _ _) v19 (d:=d19 E0) (fun x=>Ao lt rfl x) c19 rfl (by kernel_rfl)
theorem v21 [Ap]:Af (EF m21) (Am ts):=Af.decL (okE _ _) v20 (d:=d20 E0) (fun x=>Ao lt rfl x) c20 rfl (by kernel_rfl)
theorem v22 [Ap]:Af (EF m22) (Am ts):=Af.decL (okE _ _) v21 (d:=d21 E0) (fun x=>Ao lt rfl x) c21 rfl (by kernel_rfl)
theorem v23 [Ap]:Af (EF m23) (Am ts):=Af.decL (okE _ _) v22 (d:=d22 E0) (fun x=>Ao lt rfl x) c22 rfl (by kernel_rfl)
theorem v24 [Ap]:Af (EF m24) (Am ts):=Af.decL (okE _ _) v23 (d:=d23 E0) (fun x=>Ao lt rfl x) c23 rfl (by kernel_rfl)
theorem v25 [Ap]:Af (EF m25) (Am ts):=Af.decL (okE _ _) v24 (d:=d24 E0) (fun x=>Ao lt rfl x) c24 rfl (by kernel_rfl)
theorem v26 [Ap]:Af (EF m26) (Am ts):=Af.decL (okE _ _) v25 (d:=d25 E0) (fun x=>Ao lt rfl x) c25 rfl (by kernel_rfl)
theorem v27 [Ap]:Af (EF m27) (Am ts):=Af.decL (okE _ _) v26 (d:=d26 E0) (fun x=>Ao lt rfl x) c26 rfl (by kernel_rfl)
theorem v28 [Ap]:Af (EF m28) (Am ts):=Af.decL (okE _ _) v27 (d:=d27 E0) (fun x=>Ao lt rfl x) c27 rfl (by kernel_rfl)
theorem v29 [Ap]:Af (EF m29) (Am ts):=Af.decL (okE _ _) v28 (d:=d28 E0) (fun x=>Ao lt rfl x) c28 rfl (by kernel_rfl)
theorem v30 [Ap]:Af (EF m30) (Am ts):=Af.decL (okE _ _) v29 (d:=d29 E0) (fun x=>Ao lt rfl x) c29 rfl (by kernel_rfl)
theorem v31 [Ap]:Af (EF m31) (Am ts):=Af.fake (Af.decL (okE _ _) v30 (d:=d30 E0) (fun x=>Ao lt rfl x) c30 rfl (by kernel_rfl)) rfl
theorem v32 [Ap]:Af (EF m32) (Am ts):=Af.decL (okE _ _) v31 (d:=d31 E0) (fun x=>Ao lt rfl x) c31 rfl (by kernel_rfl)
theorem v33 [Ap]:Af (EF m33) (Am ts):=Af.cut (Af.decL (okE _ _) v32 (d:=d32 E0) (fun x=>Ao lt rfl x) c32 rfl (by kernel_rfl))
theorem v34 [Ap]:Af (EF m34) (Am ts):=Af.decL (okE _ _) v33 (d:=d33 E0) (fun x=>Ao lt rfl x) c33 rfl (by kernel_rfl)
theorem v35 [Ap]:Af (EF m35) (Am ts):=Af.cut (Af.cut (Af.decL (okE _ _) v34 (d:=d34 E0) (fun x=>Ao lt rfl x) c34 rfl (by kernel_rfl)))
theorem v36 [Ap]:Af (EF m36) (Am ts):=Af.decL (okE _ _) v35 (d:=d35 E0) (fun x=>Ao lt rfl x) c35 rfl (by kernel_rfl)
theorem v37 [Ap]:Af (EF m37) (Am ts):=Af.cut (Af.cut (Af.decL (okE _ _) v36 (d:=d36 E0) (fun x=>Ao lt rfl x) c36 rfl (by kernel_rfl)))
theorem v38 [Ap]:Af (EF m38) (Am ts):=Af.decL (okE _ _) v37 (d:=d37 E0) (fun x=>Ao lt rfl x) c37 rfl (by kernel_rfl)
theorem v39 [Ap]:Af (EF m39) (Am ts):=Af.cut (Af.cut (Af.decL (okE _ _) v38 (d:=d38 E0) (fun x=>Ao lt rfl x) c38 rfl (by kernel_rfl)))
theorem v40 [Ap]:Af (EF m40) (Am ts):=Af.decL (okE _ _) v39 (d:=d39 E0) (fun x=>Ao lt rfl x) c39 rfl (by kernel_rfl)
theorem v41 [Ap]:Af (EF m41) (Am ts):=Af.cut (Af.cut (Af.decL (okE _ _) v40 (d:=d40 E0) (fun x=>Ao lt rfl x) c40 rfl (by kernel_rfl)))
theorem v42 [Ap]:Af (EF m42) (Am ts):=Af.decL (okE _ _) v41 (d:=d41 E0) (fun x=>Ao lt rfl x) c41 rfl (by kernel_rfl)
theorem v43 [Ap]:Af (EF m43) (Am ts):=Af.cut (Af.cut (Af.decL (okE _ _) v42 (d:=d42 E0) (fun x=>Ao lt rfl x) c42 rfl (by kernel_rfl)))
theorem v44 [Ap]:Af (EF m44) (Am ts):=Af.decL (okE _ _) v43 (d:=d43 E0) (fun x=>Ao lt rfl x) c43 rfl (by kernel_rfl)
theorem v45 [Ap]:Af (EF m45) (Am ts):=Af.cut (Af.cut (Af.decL (okE _ _) v44 (d:=d44 E0) (fun x=>Ao lt rfl x) c44 rfl (by kernel_rfl)))
theorem v46 [Ap]:Af (EF m46) (Am ts):=Af.decL (okE _ _) v45 (d:=d45 E0) (fun x=>Ao lt rfl x) c45 rfl (by kernel_rfl)
theorem v47 [Ap]:Af (EF m47) (Am ts):=Af.cut (Af.cut (Af.decL (okE _ _) v46 (d:=d46 E0) (fun x=>Ao lt rfl x) c46 rfl (by kernel_rfl)))
theorem v48 [Ap]:Af (EF m48) (Am ts):=Af.decL (okE _ _) v47 (d:=d47 E0) (fun x=>Ao lt rfl x) c47 rfl (by kernel_rfl)
theorem v49 [Ap]:Af (EF m49) (Am ts):=Af.cut (Af.cut (Af.decL (okE _ _) v48 (d:=d48 E0) (fun x=>Ao lt rfl x) c48 rfl (by kernel_rfl)))
theorem v50 [Ap]:Af (EF m50) (Am ts):=Af.decL (okE _ _) v49 (d:=d49 E0) (fun x=>Ao lt rfl x) c49 rfl (by kernel_rfl)
theorem v51 [Ap]:Af (EF m51) (Am ts):=Af.decL (okE _ _) v50 (d:=d50 E0) (fun x=>Ao lt rfl x) c50 rfl (by kernel_rfl)
theorem v52 [Ap]:Af (EF m52) (Am ts):=Af.decL (okE _ _) v51 (d:=d51 E0) (fun x=>Ao lt rfl x) c51 rfl (by kernel_rfl)
theorem v53 [Ap]:Af (EF m53) (Am ts):=Af.decL (okE _ _) v52 (d:=d52 E0) (fun x=>Ao lt rfl x) c52 rfl (by kernel_rfl)
theorem v54 [Ap]:Af (EF m54) (Am ts):=Af.decL (okE _ _) v53 (d:=d53 E0) (fun x=>Ao lt rfl x) c53 rfl (by kernel_rfl)
theorem v55 [Ap]:Af (EF m55) (Am ts):=Af.decL (okE _ _) v54 (d:=d54 E0) (fun x=>Ao lt rfl x) c54 rfl (by kernel_rfl)
theorem v56 [Ap]:Af (EF m56) (Am ts):=Af.decL (okE _ _) v55 (d:=d55 E0) (fun x=>Ao lt rfl x) c55 rfl (by kernel_rfl)
theorem v57 [Ap]:Af (EF m57) (Am ts):=Af.decL (okE _ _) v56 (d:=d56 E0) (fun x=>Ao lt rfl x) c56 rfl (by kernel_rfl)
theorem v58 [Ap]:Af (EF m58) (Am ts):=Af.decL (okE _ _) v57 (d:=d57 E0) (fun x=>Ao lt rfl x) c57 rfl (by kernel_rfl)
theorem v59 [Ap]:Af (EF m59) (Am ts):=Af.decL (okE _ _) v58 (d:=d58 E0) (fun x=>Ao lt rfl x) c58 rfl (by kernel_rfl)
theorem v60 [Ap]:Af (EF m60) (Am ts):=Af.decL (okE _ _) v59 (d:=d59 E0) (fun x=>Ao lt rfl x) c59 rfl (by kernel_rfl)
theorem v61 [Ap]:Af (EF m61) (Am ts):=Af.decL (okE _ _) v60 (d:=d60 E0) (fun x=>Ao lt rfl x) c60 rfl (by kernel_rfl)
theorem v62 [Ap]:Af (EF m62) (Am ts):=Af.decL (okE _ _) v61 (d:=d61 E0) (fun x=>Ao lt rfl x) c61 rfl (by kernel_rfl)
theorem v63 [Ap]:Af (EF m63) (Am ts):=Af.decL (okE _ _) v62 (d:=d62 E0) (fun x=>Ao lt rfl x) c62 rfl (by kernel_rfl)
theorem v64 [Ap]:Af (EF m64) (Am ts):=Af.decL (okE _ _) v63 (d:=d63 E0) (fun x=>Ao lt rfl x) c63 rfl (by kernel_rfl)
theorem v65 [Ap]:Af (EF m65) (Am ts):=Af.decL (okE _ _) v64 (d:=d64 E0) (fun x=>Ao lt rfl x) c64 rfl (by kernel_rfl)
theorem v66 [Ap]:Af (EF m66) (Am ts):=Af.decL (okE _ _) v65 (d:=d65 E0) (fun x=>Ao lt rfl x) c65 rfl (by kernel_rfl)
theorem v67 [Ap]:Af (EF m67) (Am ts):=Af.decL (okE _ _) v66 (d:=d66 E0) (fun x=>Ao lt rfl x) c66 rfl (by kernel_rfl)
theorem v68 [Ap]:Af (EF m68) (Am ts):=Af.decL (okE _ _) v67 (d:=d67 E0) (fun x=>Ao lt rfl x) c67 rfl (by kernel_rfl)
theorem v69 [Ap]:Af (EF m69) (Am ts):=Af.decL (okE _ _) v68 (d:=d68 E0) (fun x=>Ao lt rfl x) c68 rfl (by kernel_rfl)
theorem v70 [Ap]:Af (EF m70) (Am ts):=Af.decL (okE _ _) v69 (d:=d69 E0) (fun x=>Ao lt rfl x) c69 rfl (by kernel_rfl)
theorem readable:∀t∈Tryz.f6.params.toList,Tryz.prog.readableRec t=true∧t<Tryz.prog.types.size:=by
 have h:(Tryz.f6.params.toList.all fun t=>Tryz.prog.readableRec t&&decide (t<Tryz.prog.types.size))=true:=by kernel_rfl
 intro t ht;have q:=List.all_eq_true.mp h t ht;rw [IqQ,kp] at q;exact q
theorem says (H:Type) (ds:List (DataW H)) (hl:ds.length=Tryz.f6.params.toList.length):Rows.memoryExtendsSpec.fn H ds={results:=[.lit (.bool true)],args:=ds}:=by
 have e:Tryz.f6.params.toList.length=2:=by kernel_rfl
 rw [e] at hl;rcases ds with _|⟨d0,_|⟨d1,_|⟨d2,r⟩⟩⟩<;>first|rfl | (simp only [la,List.length_nil] at hl;omega)
theorem plain [Ap] (xs:List D) (h:LC Tryz.prog Tryz.f6.params.toList xs):Am ts 70 (.row (.int 0::xs))=.row [.int 1,.bool true]:=by
 obtain ⟨hl,hc⟩:=Zr (ks:=[.str,.slice 44,.str,.int .u8]) h (by kernel_rfl)
 have K44:(Env.of Tryz.prog).kinds 44=some [.str,.slice 63]:=by kernel_rfl
 have K63:(Env.of Tryz.prog).kinds 63=some [.str,.int .i64,.int .i64,.bool,.bool,.int .i64,.int .i64,.int .i64,.slice 119,.str,.str,.str,.slice 138,.int .i64,.int .i64]:=by kernel_rfl
 have K138:(Env.of Tryz.prog).kinds 138=some [.int .i64,.int .i64,.str]:=by kernel_rfl
 match xs,hl,hc,h with
 |[v0,v1,v2,v3],_,hc,h=>
  obtain ⟨n,hn⟩:=(show Fc (Env.of Tryz.prog).kinds 9 (.int .u8) v3 from hc 3 _ rfl).toI
  subst hn;have hr:=rng h (by kernel_rfl)
  have h1:Fc (Env.of Tryz.prog).kinds 9 (.slice 44) v1:=hc 1 _ rfl;have hb:∀m:Nat,m<len v1→Fc (Env.of Tryz.prog).kinds 8 (.slice 63) (cl v1 m 1):=fun m hm=>h1.cell (i:=(m:Int)) (j:=1) K44 (by omega) (by omega) rfl
  have nz:∀{n e:Nat} {d:D},Fc (Env.of Tryz.prog).kinds (n+1) (.slice e) d→d.isNil=true→len d=0:=fun {n e d} hd q=>by
   obtain ⟨nl,rows,e,z,_⟩:=hd;rw [e] at q ⊢;rw [z q];rfl
  have h12:∀m:Nat,m<len v1→∀i:Nat,i<len (cl v1 m 1)→Fc (Env.of Tryz.prog).kinds 7 (.slice 138) (cl (cl v1 m 1) i 12):=fun m hm i hi=>(hb m hm).cell (i:=(i:Int)) (j:=12) K63 (by omega) (by omega) rfl
  have T:∀m:Nat,m<len v1→FK (cl v1 m 1):=fun m hm=>by
   have hb:=hb m hm
   refine ⟨fun i hi=>(hb.cell (i:=(i:Int)) (j:=1) K63 (by omega) (by omega) rfl).toI,fun i hi=>(hb.cell (i:=(i:Int)) (j:=2) K63 (by omega) (by omega) rfl).toI,
    fun i hi=>(hb.cell (i:=(i:Int)) (j:=3) K63 (by omega) (by omega) rfl).toB,fun i hi=>(hb.cell (i:=(i:Int)) (j:=4) K63 (by omega) (by omega) rfl).toB,
    fun i hi=>(hb.cell (i:=(i:Int)) (j:=5) K63 (by omega) (by omega) rfl).toI,fun i hi=>(hb.cell (i:=(i:Int)) (j:=6) K63 (by omega) (by omega) rfl).toI,
    fun i hi=>(hb.cell (i:=(i:Int)) (j:=7) K63 (by omega) (by omega) rfl).toI,fun i hi=>(hb.cell (i:=(i:Int)) (j:=13) K63 (by omega) (by omega) rfl).toI,
    fun i hi=>(hb.cell (i:=(i:Int)) (j:=14) K63 (by omega) (by omega) rfl).toI,fun i hi q=>?_,fun i hi j hj=>?_⟩
   ·have h8:Fc (Env.of Tryz.prog).kinds 7 (.slice 119) (cl (cl v1 m 1) i 8):=hb.cell (i:=(i:Int)) (j:=8) K63 (by omega) (by omega) rfl
    exact nz h8 q
   ·have h12:=h12 m hm i hi;exact ⟨(h12.cell (i:=(j:Int)) (j:=0) K138 (by omega) (by omega) rfl).toI,(h12.cell (i:=(j:Int)) (j:=1) K138 (by omega) (by omega) rfl).toI⟩
  exact law hr.1 hr.2 T ⟨h1.wd K44,fun q=>nz h1 q,fun m hm=>(hb m hm).wd K63,fun m hm q=>nz (hb m hm) q,fun m hm i hi q=>nz (h12 m hm i hi) q⟩
theorem lifted (os:Os) (started:os.Started) (H:Type) (enc:TypeId×Value→H) :
  ReturnsInHanded {} Tryz.checked os 6 .any (Rows.memoryExtendsSpec.pre6 enc Tryz.prog Tryz.f6 Rows.memoryExtendsRow.domain false) (Rows.memoryExtendsSpec.post enc Tryz.prog Tryz.f6 false true false false):=by
 obtain ⟨inst⟩:=ag
 exact R6 (C:=Tryz.checked) (d:=d70 E0) (T:=t70) (keys:=[]) (N:=20000) (tb:=4) (L:=[44,63,119,138]) own started (by kernel_rfl) Tryz.func6
  (ChangeSpec.witness6 (enc:=enc) (C:=Tryz.checked) false ⟨#[],#[.agg #[.string .empty,.slice none 0 0,.string .empty],.int .u8 0],[]⟩ 8 (by kernel_rfl) (by kernel_rfl) (by kernel_rfl) (by kernel_rfl))
  (by kernel_rfl) readable rfl (says H) (by kernel_rfl) (by kernel_rfl) (okE _ _) v70 (fun x=>Ao lt rfl x) c70.chk (by kernel_rfl) rfl (by kernel_rfl) plain rfl
theorem over:Rows.memoryExtendsRow.holds Tryz.pinned (OpenSpec.ofChange Rows.memoryExtendsSpec):=
 OpenClaim.holds_of_wide 6 Tryz.f6 rfl rfl rfl rfl rfl rfl rfl ⟨rfl,rfl,rfl,rfl,rfl⟩ rfl rfl rfl rfl rfl (by kernel_rfl) Tryz.func6 (by kernel_rfl)
  (of_decide_eq_true (by kernel_rfl)) (by unfold Func.isWrapper;first | (rw [if_pos (by decide +kernel)];kernel_rfl) | (rw [if_neg (by decide +kernel)];exact ⟨rfl,rfl⟩))
  (fun os started H enc _=>lifted os started H enc)
theorem proved:Rows.MemoryExtendsSaid:=over
end Go.Proofs.YtojjaeaohjlfnaaGreat.memoryExtends

