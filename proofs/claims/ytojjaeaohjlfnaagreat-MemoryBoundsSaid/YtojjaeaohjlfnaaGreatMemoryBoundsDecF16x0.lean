/- What is proved: that function 16 of the law MemoryBounds is the plain function over data whose tree of tests was written out before: place 0, in pieces. Conditions: the program is the given one. -/
import Derived.Test.YtojjaeaohjlfnaaGreatMemoryBoundsDec
set_option linter.unusedVariables false
namespace Go.AE
/-- the run of a place up to its next test -/
def partE(E:Env)(n:Nat)(F:List (SB×Bool))(s:AS):Option (SB×Nat×AS):=match @VP ⟨F⟩ E n s with
  |some e=>match AN F e with
    |none=>some (e,n,s)
    |some _=>none
  |none=>none
def toSplit(E:Env)(keys:List Nat):Nat→List (SB×Bool)→AS→Option (SB×Nat×AS)
  |0,_,_=>none
  |n+1,F,s=>match @WZ ⟨F⟩ E s with
    |some s'=>toSplit E keys n F s'
    |none=>match @aM ⟨F⟩ E s with
    |.ask e=>some (e,n,s)
    |.no=>none
    |.free=>match @A6 ⟨F⟩ E s with
      |.next s'=>match f4 keys s with
        |true=>none
        |false=>match gn keys s' with
          |true=>none
          |false=>toSplit E keys n F s'
      |.done _ _ _=>none
      |.draw s2 ops k=>match @B1 ⟨F⟩ E (@Ou ⟨F⟩ E n) ops s2.fr.nt ops.toList [] s2.fr.tmps s2.h with
        |some (none,tmps,h)=>toSplit E keys n F {s2 with fr:={s2.fr with tmps,todo:=k},h}
        |some (some v,tmps,h)=>toSplit E keys n F {s2 with fr:={s2.fr with tmps,todo:=.dead::k,mode:=.panic [(v,false)]},h}
        |none=>partE E n F s
      |.bad _=>partE E n F s
theorem toSplit_ok{E:Env}{keys:List Nat}{f0:FuncId}:∀(n:Nat) (F:List (SB×Bool)) (s:AS) (e:SB) (n':Nat) (s':AS),toSplit E keys n F s=some (e,n',s')→
    HG E keys f0 n F s=RZ e (HG E keys f0 n' ((e,true)::F) s') (HG E keys f0 n' ((e,false)::F) s'):=by
  intro n
  induction n with
  |zero=>intro F s e n' s' h;cases h
  |succ n ih=>
    intro F s e n' s' h
    have hpart:partE E n F s=some (e,n',s')→(match @VP ⟨F⟩ E n s with
      |some e=>match AN F e with
        |none=>RZ e (HG E keys f0 n ((e,true)::F) s) (HG E keys f0 n ((e,false)::F) s)
        |some _=>some (.leaf .stuck)
      |none=>some (.leaf .stuck))=RZ e (HG E keys f0 n' ((e,true)::F) s') (HG E keys f0 n' ((e,false)::F) s'):=by
      intro h
      unfold partE at h
      cases hn:@VP ⟨F⟩ E n s with
      |none=>rw[hn]at h;cases h
      |some e1=>
        rw[hn]at h
        simp only at h ⊢
        cases hd:AN F e1 with
        |some _=>rw[hd]at h;cases h
        |none=>rw[hd]at h;cases h;rfl
    simp only[toSplit]at h
    simp only[HG]
    cases htop:@WZ ⟨F⟩ E s with
    |some s1=>
      rw[htop]at h
      exact ih F s1 e n' s' h
    |none=>
      rw[htop]at h
      simp only at h ⊢
      cases hask:@aM ⟨F⟩ E s with
      |ask e1=>rw[hask]at h;cases h;rfl
      |no=>rw[hask]at h;cases h
      |free=>
        rw[hask]at h
        simp only at h ⊢
        cases hst:@A6 ⟨F⟩ E s with
        |next s1=>
          rw[hst]at h
          simp only at h ⊢
          cases hc:f4 keys s with
          |true=>rw[hc]at h;cases h
          |false=>
            rw[hc]at h
            simp only at h ⊢
            cases hr:gn keys s1 with
            |true=>rw[hr]at h;cases h
            |false=>rw[hr]at h;exact ih F s1 e n' s' h
        |done ok v g=>rw[hst]at h;cases h
        |draw s2 ops k=>
          rw[hst]at h
          simp only at h ⊢
          split at h
          · rename_i hd
            rw[hd];exact ih _ _ _ _ _ h
          · rename_i hd
            rw[hd];exact ih _ _ _ _ _ h
          · rename_i hd
            rw[hd];exact hpart h
        |bad y=>
          rw[hst]at h
          exact hpart h
/-- a part of a place's check: the tests are gone through on the way bs -/
def decS(E:Env)(keys:List Nat)(d:Dec)(i:Nat)(pt:Pt):List Bool→Nat→List (SB×Bool)→AS→Tr Plf→Option (List (Nat×List AI))
  |[],n,F,s,t=>match HG E keys d.f n F s with
    |some r=>Dy E d i pt F r t
    |none=>none
  |b::bs,n,F,s,.split e' a' b'=>match toSplit E keys n F s with
    |some (e,n',s')=>match e.same e'&&e.fits pt.nv d.g with
      |true=>(match b with
        |true=>decS E keys d i pt bs n' ((e,true)::F) s' a'
        |false=>decS E keys d i pt bs n' ((e,false)::F) s' b')
      |false=>none
    |none=>none
  |_::_,_,_,_,.leaf _=>none
theorem decS_join{E:Env}{keys:List Nat}{d:Dec}{i:Nat}{pt:Pt}{x y:List (Nat×List AI)}:∀(bs:List Bool) (n:Nat) (F:List (SB×Bool)) (s:AS) (t:Tr Plf),
    decS E keys d i pt (bs++[true]) n F s t=some x→decS E keys d i pt (bs++[false]) n F s t=some y→decS E keys d i pt bs n F s t=some (x++y)
  |[],n,F,s,.leaf _,h1,_=>by cases h1
  |[],n,F,s,.split e' a' b',h1,h2=>by
    simp only[List.nil_append,decS]at h1 h2 ⊢
    cases hs:toSplit E keys n F s with
    |none=>rw[hs]at h1;cases h1
    |some p=>
      obtain⟨e,n',s'⟩:=p
      rw[hs]at h1 h2
      simp only at h1 h2
      cases hc:(e.same e'&&e.fits pt.nv d.g)with
      |false=>rw[hc]at h1;cases h1
      |true=>
        rw[hc]at h1 h2
        simp only at h1 h2
        rw[toSplit_ok n F s e n' s' hs]
        cases r1:HG E keys d.f n' ((e,true)::F) s' with
        |none=>rw[r1]at h1;cases h1
        |some t1=>
          cases r2:HG E keys d.f n' ((e,false)::F) s' with
          |none=>rw[r2]at h2;cases h2
          |some t2=>
            rw[r1]at h1
            rw[r2]at h2
            simp only at h1 h2
            show Dy E d i pt F (.split e t1 t2) (.split e' a' b')=some (x++y)
            simp only[Dy,hc,h1,h2]
  |b::bs,n,F,s,.leaf _,h1,_=>by cases h1
  |b::bs,n,F,s,.split e' a' b',h1,h2=>by
    simp only[List.cons_append,decS]at h1 h2 ⊢
    cases hs:toSplit E keys n F s with
    |none=>rw[hs]at h1;cases h1
    |some p=>
      obtain⟨e,n',s'⟩:=p
      rw[hs]at h1 h2
      simp only at h1 h2 ⊢
      cases hc:(e.same e'&&e.fits pt.nv d.g)with
      |false=>rw[hc]at h1;cases h1
      |true=>
        rw[hc]at h1 h2
        simp only at h1 h2 ⊢
        cases b with
        |true=>exact decS_join bs n' _ s' a' h1 h2
        |false=>exact decS_join bs n' _ s' b' h1 h2
def decB(E:Env)(keys:List Nat)(N:Nat)(d:Dec)(T:List (Tr Plf))(i:Nat)(bs:List Bool):Option (List (Nat×List AI)):=
  match d.pts[i]?,T[i]? with
  |some pt,some t=>decS E keys d i pt bs N pt.facts (pt.st d) t
  |_,_=>none
/-- a way, as a number of so many bits -/
def wayB:Nat→Nat→List Bool
  |0,_=>[]
  |n+1,k=>wayB n (k/2)++[Nat.beq (k%2) 1]
theorem jl_app(d:Dec)(ys:List Nat):∀xs:List Nat,jl d (xs++ys)=jl d xs++jl d ys
  |[]=>rfl
  |x::r=>by simp only[List.cons_append,jl,jl_app d ys r]
theorem decB_join{E:Env}{keys:List Nat}{N:Nat}{d:Dec}{T:List (Tr Plf)}{i:Nat}(bs:List Bool){xs ys:List Nat}(h1:decB E keys N d T i (bs++[true])=some (jl d xs))(h2:decB E keys N d T i (bs++[false])=some (jl d ys)) :
    decB E keys N d T i bs=some (jl d (xs++ys)):=by
  unfold decB at h1 h2 ⊢
  split at h1
  · rename_i pt t hp ht
    rw[hp,ht]at h2
    rw[decS_join bs N pt.facts (pt.st d) t h1 h2]
    rw[jl_app]
  · cases h1
theorem decB_pt{E:Env}{keys:List Nat}{N:Nat}{d:Dec}{T:List (Tr Plf)}{i:Nat}{l:List (Nat×List AI)}(h:decB E keys N d T i []=some l):Af E keys N d T i=some l:=by
  unfold decB at h
  unfold Af
  split at h
  · rename_i pt t hp ht
    rw[hp,ht]
    exact h
  · cases h
end Go.AE
namespace Go.Proofs.YtojjaeaohjlfnaaGreat.memoryBounds
open Go.AE Mz
def pf16(n k:Nat)(l:List Nat):Prop:=decB (EF m16) [] 20000 (d16 E0) t16 0 (wayB n k)=some (jl (d16 E0) l)
theorem uxq0:pf16 3 7 []:=by unfold pf16;kernel_rfl
theorem uxq1:pf16 4 13 []:=by unfold pf16;kernel_rfl
theorem uxq2:pf16 12 3327 []:=by unfold pf16;kernel_rfl
theorem uxq3:pf16 12 3326 []:=by unfold pf16;kernel_rfl
end Go.Proofs.YtojjaeaohjlfnaaGreat.memoryBounds
