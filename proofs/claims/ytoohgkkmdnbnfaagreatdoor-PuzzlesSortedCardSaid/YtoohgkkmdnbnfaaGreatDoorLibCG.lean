/-
  Sorted strings out of a map's keys.
-/
import Derived.Test.YtoohgkkmdnbnfaaGreatDoorLibBG
import Derived.Test.YtoohgkkmdnbnfaaGreatDoorShelfS
import Derived.Test.YtoohgkkmdnbnfaaGreatDoorIdealPG
set_option linter.all false
set_option maxRecDepth 10000
set_option maxHeartbeats 4000000
namespace Go.Proofs.YtoohgkkmdnbnfaaGreatDoor
open Go.Ideal Kd
noncomputable def FM:=yB Tryz.prog 287
theorem O5:oq Tryz.prog 287=some FM:=by kernel_rfl
theorem O6:∀a b:ByteArray,iA a=iA b->a=b:=λa b h=>by injection h
theorem O7:AB Tryz.prog 287:=λblk off cap zs w h1 h2 h3=>by
 have h:=Any.slices_Sort_string Tryz.lays190 blk off cap (zs.map λz=>z.data.toList) w h1 h2 (by rw[bW];exact h3);rw[bW]at h;exact h
theorem O8:∃fn body,Tryz.prog.funcs[287]? =some fn/\fn.body=some body/\fn.name≠ "runtime.NumGoroutine" :=by
 obtain⟨fn,h1,h2⟩:=O4.fn 287 FM O5;have h3:Tryz.prog.funcs[287]? =some fn:=h1;have h4:(fn.name== "runtime.NumGoroutine")=false:=by
  have e:(Tryz.prog.funcs[287]?).map (λf=>f.name== "runtime.NumGoroutine")=some false:=by kernel_rfl
  rw[h3]at e;exact Option.some.inj e
 have h5:fn.body.isSome=true:=by
  have e:(Tryz.prog.funcs[287]?).map (λf=>f.body.isSome)=some true:=by kernel_rfl
  rw[h3]at e;exact Option.some.inj e
 obtain⟨body,hb⟩:=Bu.1 h5;exact⟨fn,body,h3,hb,by simpa using h4⟩
theorem O9{a:Option Addr}{m:Nat}{zs:List ByteArray}(hm:m=zs.length)(h0:0<zs.length)(hl:zs.length<4611686018427387904):
 cB Tryz.prog (.func 287) [.slice a m m] [] [ap bF (.slice a m m) zs] [] (λ_:Unit=>.tuple ⟨[]⟩) (λ_=>[ap bF (.slice a m m) (fZ zs)]) (λ_=>[]) (λ_=>True):=by
 subst hm;obtain⟨fn,body,h1,h2,h3⟩:=O8;exact Om O7 h1 h2 h3 h0 hl
theorem Pb{b bm:Nat}{aW:List (ByteArray×Value)}:qI Tryz.prog (λx:ByteArray=>[iA x]) (.func 288) [] [ptr' b] [eT b 0 [.map (some bm)],xg iA bm aW] (λxs=>xs.Perm (aW.map (·.1))):=by
 intro S inv ok step s0 Ak y1 y2 F' h0 hok hy;rw[mP,mP,jr];refine dY _ (dP 288) λB w0=>?_;refine go ?_;refine Nh (b:=bm) (aW:=aW) (bM:=iA) (next:=λr=>?_);refine go ?_;refine iJ (λy:List (ByteArray×Value)×S=>aW.length - y.1.length) (λy=>[]) (λy=>qH iA r bm aW y.1::inv y.2) (λ_=>[]) (λy=>ok (y.1.map (·.1)) y.2/\(∃rest,(y.1++rest).Perm aW)/\∀rest,iL step s0 (y.1.map (·.1)++rest)=iL step y.2 rest) ([],s0) ⟨h0,⟨aW,.refl _⟩,λ_=>rfl⟩ (body:=?_);rintro⟨dZ,s⟩ ⟨hos,_,hrun⟩;dsimp only at hos hrun⊢;refine go ?_;refine Nj (b:=bm) (aW:=aW) (dZ:=dZ) (bM:=iA) (more:=λp rem hp=>?_) (done:=λhp=>?_) O6
 ·have hX:(dZ.map (·.1)++p.1::rem.map (·.1)).Perm (aW.map (·.1)):=by
   have:=hp.map (·.1);rw[jP,jh]at this;exact this
  have hlen:=hp.length_eq;rw[dO,o8]at hlen;have Pd:=hy _ s _ _ hos hX;refine go ?_;refine Nq (bM:=iA) (aW:=aW) (dZ:=dZ) (p:=p) ?_;refine go ?_;refine bn Pd (next:=λ_ _=>?_);cases hst:(step s p.1).2 with
  |true=>
   have hs1:step s p.1=((step s p.1).1,true):=Prod.ext rfl hst;refine go ?_;refine dw (dZ++[p],(step s p.1).1) (by show aW.length - (dZ++[p]).length<_;rw[dO,xY];omega) ⟨?_,⟨rem,by show((dZ++[p])++rem).Perm aW;rw[fD];exact hp⟩,λrest=>?_⟩
   ·show ok ((dZ++[p]).map (·.1)) _;rw[jP];exact hok _ s _ _ hos hX hst
   ·show iL step s0 ((dZ++[p]).map (·.1)++rest)=_;rw[jP,fD,hrun];show iL step s (p.1::rest)=_;rw[iL,hs1]
  |false=>
   have hs1:step s p.1=((step s p.1).1,false):=Prod.ext rfl hst;have hr:=hrun (p.1::rem.map (·.1));rw[iL,hs1]at hr;dsimp only at hr;refine go ?_;exact bf (dZ.map (·.1)++p.1::rem.map (·.1)) (hv:=rfl) (hp:=hX) (hk:=by rw[hr];exact bG.self _ _)
 ·refine go ?_;have hr:=hrun [];rw[fu]at hr;exact bf (dZ.map (·.1)) (hv:=rfl) (hp:=hp.map (·.1)) (hk:=by rw[hr];apply bG.there;exact bG.all _)
structure AZ where
 c:Option Nat
 xs:List ByteArray
abbrev tZ(b n:Nat)(ys:List ByteArray):OA:=Ag λc:Option Nat=>[pt b (.cells [gv bF.n c n]),ap bF (gv bF.n c n) ys]
theorem Pe{fn:Fn}{first captured:List Value}{F1:List ay}{X:List ByteArray->Prop}(hit:qI Tryz.prog (λx:ByteArray=>[iA x]) fn first captured F1 X)(hl:∀xs,X xs->xs.length<=1000000):
 cB Tryz.prog (.func 310) [.slice none 0 0,.func fn ⟨first⟩ ⟨captured⟩] [] [] F1 (λy:AZ=>gv bF.n y.c y.xs.length) (λy=>[ap bF (gv bF.n y.c y.xs.length) y.xs]) (λ_=>[]) (λy=>X y.xs):=by
 refine M7 _ (dP 310) λB w0=>?_;refine go ?_;intro b2;refine Ab bF ?_;rw[show Value.slice none 0 0=gv bF.n none 0 from rfl];refine EQ (λc:Option Nat=>[pt b2 (.cells [gv bF.n c 0]),ap bF (gv bF.n c 0) ([]:List ByteArray)]) none (h:=?_);refine Fa (A:=tZ b2 0 ([]:List ByteArray)) (A':=tZ b2 ([]:List ByteArray).length ([]:List ByteArray)) rfl ?_;refine Nu (Z:=Nat) (λ(ys:List ByteArray) (x:ByteArray)=>(ys++[x],Out.normal)) (λys=>[tZ b2 ys.length ys]) (λvs ys=>ys=vs) [] _ (λ_ _=>[]) rfl (λvs s x rest hs hX _=>by rw[hs]) hit (by intro s x lo o B w0;refine go ?_;have z0:Nat:=0;exact Nr z0 rfl) ?_ ?_ (λ_ _=>trivial)
 ·intro vs s x rest z lo L B w0 hs hx;subst hs;dsimp only[List.cons_append,List.nil_append];have hlen:s.length<=1000000:=by have:=hl _ hx;rw[dO,o8]at this;omega
  refine EP (h:=λc=>?_);generalize hv:gv bF.n c s.length=v;refine go ?_;intro b10;refine Oq (xs:=s) bF x () (by omega) (next:=λcb=>?_);refine go ?_;rw[show Value.slice (some ⟨cb,0,some bF.n⟩) (s.length+1) (s.length+1)=gv bF.n (some cb) (s.length+1)from rfl];refine EQ (λc:Option Nat=>[pt b2 (.cells [gv bF.n c (s.length+1)]),ap bF (gv bF.n c (s.length+1)) (s++[x])]) (some cb) (h:=?_);refine Fa (A:=tZ b2 (s.length+1) (s++[x])) (A':=tZ b2 (s++[x]).length (s++[x])) (by rw[dO,xY]) ?_;exact M9 () rfl trivial trivial
 ·intro r xs hX;have hrun:∀(ys zs:List ByteArray),iM (λ(ys:List ByteArray) (x:ByteArray)=>(ys++[x],Out.normal)) ys zs=(ys++zs,.normal):=by
   intro ys zs;induction zs generalizing ys with
   |nil=>simp[iM]
   |cons z zs ih=>rw[iM];simp only[ih];simp
  rw[hrun,jr];dsimp only[List.cons_append,List.nil_append];refine EP (h:=λc=>?_);generalize hv:gv bF.n c xs.length=v;refine go ?_;subst hv;exact M8 ⟨c,xs⟩ (hv:=rfl) (hp:=hX)
theorem Pf{fn:Fn}{first captured:List Value}{F1:List ay}{X:List ByteArray->Prop}(hit:qI Tryz.prog (λx:ByteArray=>[iA x]) fn first captured F1 X)(hl:∀xs,X xs->xs.length<=1000000):
 cB Tryz.prog (.func 286) [.func fn ⟨first⟩ ⟨captured⟩] [] [] F1 (λy:AZ=>gv bF.n y.c y.xs.length) (λy=>[ap bF (gv bF.n y.c y.xs.length) y.xs]) (λ_=>[]) (λy=>X y.xs):=by
 refine dY _ (dP 286) λB w0=>?_;refine go ?_;refine bn (Pe hit hl) (next:=λy hy=>?_);dsimp only[List.cons_append,List.nil_append];refine go ?_;exact bf y (hv:=rfl) (hp:=hy)
theorem Pg{fn:Fn}{first captured:List Value}{F1:List ay}{X:List ByteArray->Prop}(hit:qI Tryz.prog (λx:ByteArray=>[iA x]) fn first captured F1 X)(hl:∀xs,X xs->0<xs.length/\xs.length<=1000000):
 cB Tryz.prog (.func 252) [.func fn ⟨first⟩ ⟨captured⟩] [] [] F1 (λy:AZ=>gv bF.n y.c y.xs.length) (λy=>[ap bF (gv bF.n y.c y.xs.length) (fZ y.xs)]) (λ_=>[]) (λy=>X y.xs):=by
 refine dY _ (dP 252) λB w0=>?_;refine go ?_;refine bn (Pf hit λxs hx=>(hl xs hx).2) (next:=λy hy=>?_);obtain⟨c,xs⟩:=y;dsimp only[List.cons_append,List.nil_append]at hy⊢;obtain⟨h0,hlen⟩:=hl _ hy;cases c with
 |none=>
  rw[show gv bF.n none xs.length=Value.slice none 0 0 from rfl];exact Ot (xs:=xs) h0
 |some c=>
  rw[show gv bF.n (some c) xs.length=.slice (some ⟨c,0,some bF.n⟩) xs.length xs.length from rfl];refine go ?_;refine bn (O9 (a:=some ⟨c,0,some bF.n⟩) (zs:=xs) rfl h0 (by omega)) (next:=λ_ _=>?_);refine go ?_;rw[show Value.slice (some ⟨c,0,some bF.n⟩) xs.length xs.length=gv bF.n (some c) xs.length from rfl];exact bf ⟨some c,xs⟩ (hv:=rfl) (hp:=hy)
