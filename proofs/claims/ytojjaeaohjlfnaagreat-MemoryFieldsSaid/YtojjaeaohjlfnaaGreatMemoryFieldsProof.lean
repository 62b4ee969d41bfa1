/- What is proved: the given statement Rows.MemoryFieldsSaid: at every input the law MemoryFields returns true and leaves what its arguments reach as it was. Conditions: none beyond those that the given row itself states. The road: the functions that the law reaches are turned into plain functions over data, which the kernel checks; the plain law is proved of those. -/
import Derived.Test.YtojjaeaohjlfnaaGreatRows
import Derived.Test.YtojjaeaohjlfnaaGreatChecked
import Derived.Test.YtojjaeaohjlfnaaGreatMemoryFieldsDecA
import Derived.Test.YtojjaeaohjlfnaaGreatMemoryFieldsPlain
import Derived.KernelRfl
import Derived.JoinedOf
import Derived.Handed
set_option linter.unusedVariables false
set_option linter.unusedSectionVars false
set_option linter.unusedSimpArgs false
namespace Go.Proofs.YtojjaeaohjlfnaaGreat.memoryFields
open Go.AE Mm
theorem own:ownKnob Tryz.prog.godebug=none:=by kernel_rfl
theorem v0 [Ax]:Ah (EF m0) (Aq ts):=(fun G=>(Ah.cons (U:=G7) (w18 G) (w0 G):Ah (Env.ofS Tryz.prog [o18] []) G)) (Aq ts)
theorem v1 [Ax]:Ah (EF m1) (Aq ts):=Ah.decL (okE _ _) v0 (d:=d0 E0) (fun x=>Aw lt rfl x) c0 rfl (by kernel_rfl)
theorem v2 [Ax]:Ah (EF m2) (Aq ts):=Ah.decL (okE _ _) v1 (d:=d1 E0) (fun x=>Aw lt rfl x) c1 rfl (by kernel_rfl)
theorem v3 [Ax]:Ah (EF m3) (Aq ts):=Ah.decL (okE _ _) v2 (d:=d2 E0) (fun x=>Aw lt rfl x) c2 rfl (by kernel_rfl)
theorem v4 [Ax]:Ah (EF m4) (Aq ts):=Ah.decL (okE _ _) v3 (d:=d3 E0) (fun x=>Aw lt rfl x) c3 rfl (by kernel_rfl)
theorem v5 [Ax]:Ah (EF m5) (Aq ts):=Ah.decL (okE _ _) v4 (d:=d4 E0) (fun x=>Aw lt rfl x) c4 rfl (by kernel_rfl)
theorem v6 [Ax]:Ah (EF m6) (Aq ts):=Ah.decL (okE _ _) v5 (d:=d5 E0) (fun x=>Aw lt rfl x) c5 rfl (by kernel_rfl)
theorem v7 [Ax]:Ah (EF m7) (Aq ts):=Ah.decL (okE _ _) v6 (d:=d6 E0) (fun x=>Aw lt rfl x) c6 rfl (by kernel_rfl)
theorem v8 [Ax]:Ah (EF m8) (Aq ts):=Ah.decL (okE _ _) v7 (d:=d7 E0) (fun x=>Aw lt rfl x) c7 rfl (by kernel_rfl)
theorem v9 [Ax]:Ah (EF m9) (Aq ts):=Ah.decL (okE _ _) v8 (d:=d8 E0) (fun x=>Aw lt rfl x) c8 rfl (by kernel_rfl)
theorem v10 [Ax]:Ah (EF m10) (Aq ts):=Ah.decL (okE _ _) v9 (d:=d9 E0) (fun x=>Aw lt rfl x) c9 rfl (by kernel_rfl)
theorem v11 [Ax]:Ah (EF m11) (Aq ts):=Ah.decL (okE _ _) v10 (d:=d10 E0) (fun x=>Aw lt rfl x) c10 rfl (by kernel_rfl)
theorem v12 [Ax]:Ah (EF m12) (Aq ts):=Ah.decL (okE _ _) v11 (d:=d11 E0) (fun x=>Aw lt rfl x) c11 rfl (by kernel_rfl)
theorem v13 [Ax]:Ah (EF m13) (Aq ts):=Ah.decL (okE _ _) v12 (d:=d12 E0) (fun x=>Aw lt rfl x) c12 rfl (by kernel_rfl)
theorem v14 [Ax]:Ah (EF m14) (Aq ts):=Ah.decL (okE _ _) v13 (d:=d13 E0) (fun x=>Aw lt rfl x) c13 rfl (by kernel_rfl)
theorem v15 [Ax]:Ah (EF m15) (Aq ts):=Ah.decL (okE _ _) v14 (d:=d14 E0) (fun x=>Aw lt rfl x) c14 rfl (by kernel_rfl)
theorem v16 [Ax]:Ah (EF m16) (Aq ts):=Ah.decL (okE _ _) v15 (d:=d15 E0) (fun x=>Aw lt rfl x) c15 rfl (by kernel_rfl)
theorem v17 [Ax]:Ah (EF m17) (Aq ts):=Ah.decL (okE _ _) v16 (d:=d16 E0) (fun x=>Aw lt rfl x) c16 rfl (by kernel_rfl)
theorem v18 [Ax]:Ah (EF m18) (Aq ts):=Ah.decL (okE _ _) v17 (d:=d17 E0) (fun x=>Aw lt rfl x) c17 rfl (by kernel_rfl)
theorem v19 [Ax]:Ah (EF m19) (Aq ts):=Ah.decL (okE _ _) v18 (d:=d18 E0) (fun x=>Aw lt rfl x) c18 rfl (by kernel_rfl)
theorem v20 [Ax]:Ah (EF m20) (Aq ts):=Ah.decL (okE _ _) v19 (d:=d19 E0) (fun x=>Aw lt rfl x) c19 rfl (by kernel_rfl)
theorem v21 [Ax]:Ah (EF m21) (Aq ts):=Ah.decL (okE _ _) v20 (d:=d20 E0) (fun x=>Aw lt rfl x) c20 rfl (by kernel_rfl)
theorem v22 [Ax]:Ah (EF m22) (Aq ts):=Ah.decL (okE _ _) v21 (d:=d21 E0) (fun x=>Aw lt rfl x) c21 rfl (by kernel_rfl)
theorem v23 [Ax]:Ah (EF m23) (Aq ts):=Ah.decL (okE _ _) v22 (d:=d22 E0) (fun x=>Aw lt rfl x) c22 rfl (by kernel_rfl)
theorem v24 [Ax]:Ah (EF m24) (Aq ts):=Ah.decL (okE _ _) v23 (d:=d23 E0) (fun x=>Aw lt rfl x) c23 rfl (by kernel_rfl)
theorem v25 [Ax]:Ah (EF m25) (Aq ts):=Ah.decL (okE _ _) v24 (d:=d24 E0) (fun x=>Aw lt rfl x) c24 rfl (by kernel_rfl)
theorem v26 [Ax]:Ah (EF m26) (Aq ts):=Ah.decL (okE _ _) v25 (d:=d25 E0) (fun x=>Aw lt rfl x) c25 rfl (by kernel_rfl)
theorem v27 [Ax]:Ah (EF m27) (Aq ts):=Ah.decL (okE _ _) v26 (d:=d26 E0) (fun x=>Aw lt rfl x) c26 rfl (by kernel_rfl)
theorem v28 [Ax]:Ah (EF m28) (Aq ts):=Ah.decL (okE _ _) v27 (d:=d27 E0) (fun x=>Aw lt rfl x) c27 rfl (by kernel_rfl)
theorem v29 [Ax]:Ah (EF m29) (Aq ts):=Ah.decL (okE _ _) v28 (d:=d28 E0) (fun x=>Aw lt rfl x) c28 rfl (by kernel_rfl)
theorem v30 [Ax]:Ah (EF m30) (Aq ts):=Ah.decL (okE _ _) v29 (d:=d29 E0) (fun x=>Aw lt rfl x) c29 rfl (by kernel_rfl)
theorem v31 [Ax]:Ah (EF m31) (Aq ts):=Ah.decL (okE _ _) v30 (d:=d30 E0) (fun x=>Aw lt rfl x) c30 rfl (by kernel_rfl)
theorem v32 [Ax]:Ah (EF m32) (Aq ts):=Ah.decL (okE _ _) v31 (d:=d31 E0) (fun x=>Aw lt rfl x) c31 rfl (by kernel_rfl)
theorem v33 [Ax]:Ah (EF m33) (Aq ts):=Ah.decL (okE _ _) v32 (d:=d32 E0) (fun x=>Aw lt rfl x) c32 rfl (by kernel_rfl)
theorem v34 [Ax]:Ah (EF m34) (Aq ts):=Ah.decL (okE _ _) v33 (d:=d33 E0) (fun x=>Aw lt rfl x) c33 rfl (by kernel_rfl)
theorem v35 [Ax]:Ah (EF m35) (Aq ts):=Ah.decL (okE _ _) v34 (d:=d34 E0) (fun x=>Aw lt rfl x) c34 rfl (by kernel_rfl)
theorem v36 [Ax]:Ah (EF m36) (Aq ts):=Ah.decL (okE _ _) v35 (d:=d35 E0) (fun x=>Aw lt rfl x) c35 rfl (by kernel_rfl)
theorem v37 [Ax]:Ah (EF m37) (Aq ts):=Ah.decL (okE _ _) v36 (d:=d36 E0) (fun x=>Aw lt rfl x) c36 rfl (by kernel_rfl)
theorem v38 [Ax]:Ah (EF m38) (Aq ts):=Ah.decL (okE _ _) v37 (d:=d37 E0) (fun x=>Aw lt rfl x) c37 rfl (by kernel_rfl)
theorem v39 [Ax]:Ah (EF m39) (Aq ts):=Ah.decL (okE _ _) v38 (d:=d38 E0) (fun x=>Aw lt rfl x) c38 rfl (by kernel_rfl)
theorem v40 [Ax]:Ah (EF m40) (Aq ts):=Ah.decL (okE _ _) v39 (d:=d39 E0) (fun x=>Aw lt rfl x) c39 rfl (by kernel_rfl)
theorem readable:∀t∈Tryz.f4.params.toList,Tryz.prog.readableRec t=true∧t<Tryz.prog.types.size:=by
 have h:(Tryz.f4.params.toList.all fun t=>Tryz.prog.readableRec t&&decide (t<Tryz.prog.types.size))=true:=by kernel_rfl
 intro t ht;have q:=List.all_eq_true.mp h t ht;rw [Bool.and_eq_true,decide_eq_true_eq] at q;exact q
theorem says (H:Type) (ds:List (DataW H)) (hl:ds.length=Tryz.f4.params.toList.length):Rows.memoryFieldsSpec.fn H ds={results:=[.lit (.bool true)],args:=ds}:=by
 have e:Tryz.f4.params.toList.length=3:=by kernel_rfl
 rw [e] at hl;rcases ds with _|⟨d0,_|⟨d1,_|⟨d2,_|⟨d3,r⟩⟩⟩⟩<;>first|rfl | (simp only [List.length_cons,List.length_nil] at hl;omega)
theorem plain [Ax] (xs:List D) (h:Pi Tryz.prog Tryz.f4.params.toList xs):Aq ts 40 (.row (.int 0::xs))=.row [.int 1,.bool true]:=by
 obtain ⟨hl,hc⟩:=W9 (ks:=[.str,.slice 44,.str,.str,.str]) h (by kernel_rfl)
 have K44:(Env.of Tryz.prog).kinds 44=some [.str,.slice 63]:=by kernel_rfl
 have K63:(Env.of Tryz.prog).kinds 63=some [.str,.int .i64,.int .i64,.bool,.bool,.int .i64,.int .i64,.int .i64,.slice 119,.str,.str,.str,.slice 138,.int .i64,.int .i64]:=by kernel_rfl
 have K138:(Env.of Tryz.prog).kinds 138=some [.int .i64,.int .i64,.str]:=by kernel_rfl
 match xs,hl,hc with
 |[v0,v1,v2,v3,v4],_,hc=>
  have h1:Gy (Env.of Tryz.prog).kinds 9 (.slice 44) v1:=hc 1 _ rfl
  have T:∀m:Nat,m<len v1→FK (cl v1 m 1):=fun m hm=>by
   have hb:Gy (Env.of Tryz.prog).kinds 8 (.slice 63) (cl v1 m 1):=h1.cell (i:=(m:Int)) (j:=1) K44 (by omega) (by omega) rfl
   refine ⟨fun i hi=>(hb.cell (i:=(i:Int)) (j:=1) K63 (by omega) (by omega) rfl).toI,fun i hi=>(hb.cell (i:=(i:Int)) (j:=2) K63 (by omega) (by omega) rfl).toI,
    fun i hi=>(hb.cell (i:=(i:Int)) (j:=3) K63 (by omega) (by omega) rfl).toB,fun i hi=>(hb.cell (i:=(i:Int)) (j:=4) K63 (by omega) (by omega) rfl).toB,
    fun i hi=>(hb.cell (i:=(i:Int)) (j:=5) K63 (by omega) (by omega) rfl).toI,fun i hi=>(hb.cell (i:=(i:Int)) (j:=6) K63 (by omega) (by omega) rfl).toI,
    fun i hi=>(hb.cell (i:=(i:Int)) (j:=7) K63 (by omega) (by omega) rfl).toI,fun i hi=>(hb.cell (i:=(i:Int)) (j:=13) K63 (by omega) (by omega) rfl).toI,
    fun i hi=>(hb.cell (i:=(i:Int)) (j:=14) K63 (by omega) (by omega) rfl).toI,fun i hi q=>?_,fun i hi j hj=>?_⟩
   ·have h8:Gy (Env.of Tryz.prog).kinds 7 (.slice 119) (cl (cl v1 m 1) i 8):=hb.cell (i:=(i:Int)) (j:=8) K63 (by omega) (by omega) rfl
    obtain ⟨nl,rows,e,z,_⟩:=h8;rw [e] at q ⊢;rw [z q];rfl
   ·have h12:Gy (Env.of Tryz.prog).kinds 7 (.slice 138) (cl (cl v1 m 1) i 12):=hb.cell (i:=(i:Int)) (j:=12) K63 (by omega) (by omega) rfl
    exact ⟨(h12.cell (i:=(j:Int)) (j:=0) K138 (by omega) (by omega) rfl).toI,(h12.cell (i:=(j:Int)) (j:=1) K138 (by omega) (by omega) rfl).toI⟩
  exact law T
theorem lifted (os:Os) (started:os.Started) (H:Type) (enc:TypeId×Value→H) :
  ReturnsInHanded {} Tryz.checked os 4 .any (Rows.memoryFieldsSpec.pre6 enc Tryz.prog Tryz.f4 Rows.memoryFieldsRow.domain false) (Rows.memoryFieldsSpec.post enc Tryz.prog Tryz.f4 false true false false):=by
 obtain ⟨inst⟩:=XH
 exact Qu (C:=Tryz.checked) (d:=d40 E0) (T:=t40) (keys:=[]) (N:=20000) (tb:=4) (L:=[44,63,119,138]) own started (by kernel_rfl) Tryz.func4
  (ChangeSpec.witness6 (enc:=enc) (C:=Tryz.checked) false ⟨#[],#[.agg #[.string .empty,.slice none 0 0,.string .empty],.string .empty,.string .empty],[]⟩ 8 (by kernel_rfl) (by kernel_rfl) (by kernel_rfl) (by kernel_rfl))
  (by kernel_rfl) readable rfl (says H) (by kernel_rfl) (by kernel_rfl) (okE _ _) v40 (fun x=>Aw lt rfl x) c40.chk (by kernel_rfl) rfl (by kernel_rfl) plain rfl
theorem over:Rows.memoryFieldsRow.holds Tryz.pinned (OpenSpec.ofChange Rows.memoryFieldsSpec):=
 OpenClaim.holds_of_wide 4 Tryz.f4 rfl rfl rfl rfl rfl rfl rfl ⟨rfl,rfl,rfl,rfl,rfl⟩ rfl rfl rfl rfl rfl (by kernel_rfl) Tryz.func4 (by kernel_rfl)
  (of_decide_eq_true (by kernel_rfl)) (by unfold Func.isWrapper;first | (rw [if_pos (by decide +kernel)];kernel_rfl) | (rw [if_neg (by decide +kernel)];exact ⟨rfl,rfl⟩))
  (fun os started H enc _=>lifted os started H enc)
theorem proved:Rows.MemoryFieldsSaid:=over
end Go.Proofs.YtojjaeaohjlfnaaGreat.memoryFields

