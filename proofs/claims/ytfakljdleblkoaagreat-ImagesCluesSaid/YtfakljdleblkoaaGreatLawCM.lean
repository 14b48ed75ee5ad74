/-
  The laws of images on the ideal machine: ImagesClues.
-/
import Derived.Test.YtfakljdleblkoaaGreatLawSM
set_option linter.all false
set_option maxRecDepth 10000
set_option maxHeartbeats 4000000
namespace Go.Proofs.YtfakljdleblkoaaGreat
open Go.Ideal Kd Canon
abbrev afB:=@List.take_zero
theorem ahF{α:Type}{l:List α}(h:l.length=3):∃a b c,l=[a,b,c]:=by
 match l,h with
 |[a,b,c],_=>exact⟨a,b,c,rfl⟩
theorem anh{k:aU}{s t:List Int}{p x:List Clue}(hK:bF k)(hk:gB k s t)(hQ:iQ k p)(hx:jP (p.map (gV k s t)) x):x.length=p.length:=by
 have h1:=agN hx;rw[bJ]at h1;have hnd:(p.map (gV k s t)).Nodup:=by
  unfold List.Nodup;rw[yX];refine List.Pairwise.imp_of_mem (λ{a b} ha hb hab e=>?_) (akS hQ);have:=akQ hK hk (hQ.right a ha) (hQ.right b hb) (by rw[e,qX];exact⟨rfl,rfl⟩);omega
 have h2:=WE hnd (λg hg=>(QH hK hk hQ hx g).2 hg);rw[bJ]at h2;omega
def abI(w:Clue->Int):List Clue->Int
 |[]=>0
 |g::L=>w g+abI w L
theorem anF(w:Clue->Int)(A B:List Clue):abI w (A++B)=abI w A+abI w B:=by
 induction A with
 |nil=>simp only[bH,abI];omega
 |cons a A ih=>simp only[bX,abI,ih];omega
theorem aaQ{w:Clue->Int}{L:List Clue}{i:Nat}{g:Clue}(h:L[i]? =some g):abI w (L.take (i+1))=abI w (L.take i)+w g:=by
 rw[gZ h,anF];simp only[abI];omega
theorem afC{w:Clue->Int}{A B:List Clue}(h:A.Perm B):abI w A=abI w B:=by
 induction h with
 |nil=>rfl
 |cons a _ ih=>simp only[abI,ih]
 |swap a b l=>simp only[abI];omega
 |trans _ _ a b=>exact a.trans b
theorem afS{w:Clue->Int}{f:Clue->Clue}{L:List Clue}(h:∀g∈L,w (f g)=w g):abI w (L.map f)=abI w L:=by
 induction L with
 |nil=>rfl
 |cons a L ih=>simp only[fI,abI,h a bR,ih λg hg=>h g (bU _ hg)]
theorem afV{w:Clue->Int}{B:Int}{L:List Clue}(hB:0<=B)(h:∀g∈L,0<=w g/\w g<=B):0<=abI w L/\abI w L<=B*(L.length:Int):=by
 induction L with
 |nil=>simp[abI]
 |cons a L ih=>
  have h1:=ih λg hg=>h g (bU _ hg);have h2:=h a bR;simp only[abI,lN];have:B*((L.length+1:Nat):Int)=B*(L.length:Int)+B:=by rw[Int.natCast_add,Int.mul_add];simp
  omega
def abQ:List Int->Int
 |[]=>0
 |x::xs=>x+abQ xs
theorem aid(a b:List Int):abQ (a++b)=abQ a+abQ b:=by
 induction a with
 |nil=>simp only[bH,abQ];omega
 |cons x a ih=>simp only[bX,abQ,ih];omega
theorem ae1{L:List Int}{i:Nat}{x:Int}(h:L[i]? =some x):abQ (L.take (i+1))=abQ (L.take i)+x:=by
 rw[gZ h,aid];simp only[abQ];omega
theorem anG(a:List Int):abQ a.reverse=abQ a:=by
 induction a with
 |nil=>rfl
 |cons x a ih=>rw[RH,aid,ih];simp only[abQ];omega
theorem acs{L:List Int}(h:∀x∈L,0<=x/\x<=65536):0<=abQ L/\abQ L<=65536*(L.length:Int):=by
 induction L with
 |nil=>simp[abQ]
 |cons a L ih=>
  have h1:=ih λg hg=>h g (bU _ hg);have h2:=h a bR;simp only[abQ,lN];omega
def acg(c:Int)(g:Clue):Int:=if g.aN=c then 1 else 0
def acn(c:Int)(g:Clue):Int:=if g.aN=c then(g.values.length:Int)else 0
def abh(c ty:Int)(g:Clue):Int:=if g.aN=c then(if ty≠1 then abQ g.values else 0)else 0
theorem kY.bd{k:aU}{g:Clue}(hK:bF k)(h:kY k g):g.values.length<=8/\∀x∈g.values,0<=x/\x<=65536:=by
 obtain⟨c,L,a1,a2,a3,a4,a5,a6⟩:=h;have hm:=hK.typ.lim.s1;have hc:=(hK.typ.form.mE _ c a2).2;unfold wP at hc;rcases a6 with⟨a,b,d⟩|⟨a,b,d⟩|⟨a,_,b,d⟩
 ·exact⟨by omega,λx hx=>by have:=d x hx;omega⟩
 ·exact⟨by omega,λx hx=>by have:=d x hx;omega⟩
 ·exact⟨by omega,λx hx=>by have:=d x hx;omega⟩
theorem afY{k:aU}{g:Clue}(hK:bF k)(h:kY k g)(c ty:Int):(0<=acg c g/\acg c g<=1)/\(0<=acn c g/\acn c g<=8)/\(0<=abh c ty g/\abh c ty g<=524288):=by
 obtain⟨h1,h2⟩:=kY.bd hK h;have h3:=acs h2;unfold acg acn abh;refine⟨?_,?_,?_⟩
 ·split<;>omega
 ·split<;>omega
 ·split
  ·split<;>omega
  ·omega
theorem aio{k:aU}{p:List Clue}(hK:bF k)(h:iQ k p)(hl:p.length<=60)(c ty:Int)(i:Nat):(0<=abI (acg c) (p.take i)/\abI (acg c) (p.take i)<=60)/\(0<=abI (acn c) (p.take i)/\abI (acn c) (p.take i)<=480)/\(0<=abI (abh c ty) (p.take i)/\abI (abh c ty) (p.take i)<=31457280):=by
 have hr:∀g∈p.take i,kY k g:=λg hg=>h.right g (LF hg);have hlt:(p.take i).length<=60:=by rw[iL];omega
 have a:=afV (w:=acg c) (B:=1) (by omega) (λg hg=>(afY hK (hr g hg) c ty).1);have b:=afV (w:=acn c) (B:=8) (by omega) (λg hg=>(afY hK (hr g hg) c ty).2.1);have d:=afV (w:=abh c ty) (B:=524288) (by omega) (λg hg=>(afY hK (hr g hg) c ty).2.2);omega
theorem ag0{k:aU}{s t:List Int}{g:Clue}(hK:bF k)(hk:gB k s t)(h:kY k g){ci:Nat}{cl:iI}(hc:k.decl.bI[ci]? =some cl):acg (ci:Int) (gV k s t g)=acg (ci:Int) g/\acn (ci:Int) (gV k s t g)=acn (ci:Int) g/\abh (ci:Int) cl.type (gV k s t g)=abh (ci:Int) cl.type g:=by
 obtain⟨c,L,j,i,l,l',G⟩:=vN hK hk h;have hcc:=G.hc;rw[G.img];unfold acg acn abh;dsimp only;refine⟨rfl,?_,?_⟩
 ·split
  ·unfold qA;split
   ·rw[Dz]
   ·split
    ·rw[Ch]
    ·rfl
  ·rfl
 ·split
  ·rename_i e;rw[e,eX,hc]at hcc;obtain rfl:cl=c:=Option.some.inj hcc;split
   ·rename_i e1;unfold qA;rw[if_neg e1];split
    ·rw[anG]
    ·rfl
   ·rfl
  ·rfl
theorem Kl{k:aU}{s t:List Int}{p x:List Clue}(hK:bF k)(hk:gB k s t)(hQ:iQ k p)(hx:jP (p.map (gV k s t)) x):x.Perm (p.map (gV k s t)):=by
 have hnd:(p.map (gV k s t)).Nodup:=by
  unfold List.Nodup;rw[yX];refine List.Pairwise.imp_of_mem (λ{a b} ha hb hab e=>?_) (akS hQ);have:=akQ hK hk (hQ.right a ha) (hQ.right b hb) (by rw[e,qX];exact⟨rfl,rfl⟩);omega
 exact(List.perm_ext_iff_of_nodup (agM hx.inc) hnd).2 (QH hK hk hQ hx)
theorem anH{k:aU}{s t:List Int}{p x:List Clue}(hK:bF k)(hk:gB k s t)(hQ:iQ k p)(hx:jP (p.map (gV k s t)) x){ci:Nat}{cl:iI}(hc:k.decl.bI[ci]? =some cl):abI (acg (ci:Int)) x=abI (acg (ci:Int)) p/\abI (acn (ci:Int)) x=abI (acn (ci:Int)) p/\abI (abh (ci:Int) cl.type) x=abI (abh (ci:Int) cl.type) p:=by
 have hp:=Kl hK hk hQ hx;refine⟨?_,?_,?_⟩
 ·rw[afC hp];exact afS λg hg=>(ag0 hK hk (hQ.right g hg) hc).1
 ·rw[afC hp];exact afS λg hg=>(ag0 hK hk (hQ.right g hg) hc).2.1
 ·rw[afC hp];exact afS λg hg=>(ag0 hK hk (hQ.right g hg) hc).2.2
set_option maxRecDepth 100000 in
theorem anI{k:aU}{s t:List Int}{p:List Clue}{vh vs vr vc vu gh gc vn vl sc st vp:Value}(hB:BM k)(hP:oW p)(hs:s.length<9223372036854775808)(ht:t.length<9223372036854775808):
 eG Tryz.prog 8 [.agg ⟨kG k vh vs vr vc vu gh gc vn vl⟩,.agg ⟨[sc,st]⟩,.agg ⟨[vp]⟩] (ah bG vp p::ah ae sc s::ah ae st t::je k vh vs vr vc vu gh gc vn vl []) (.bool true):=by
 refine aK _ (aM 8) λB w0=>?_;dsimp only[je];obtain⟨grid,hgr⟩:∃grid:List Int,grid=[]:=⟨_,rfl⟩
 refine fO (ah ae (.slice none 0 0) grid) (λw hw=>by rw[hgr];exact .inl ⟨rfl,none,0,rfl,trivial⟩) ?_;refine go ?_;intro b3 b4 b5;refine go ?_;refine ak Pq (next:=λ_ _=>?_);refine go ?_;refine ak (Qz (k:=k) (p:=p) (grid:=grid) (vh:=vh) (vs:=vs) (vr:=vr) (vc:=vc) (vu:=vu) (gh:=gh) (gc:=gc) (vn:=vn) (vl:=vl) hB) (next:=λb hb=>?_);cases b with
 |false=>
  refine go ?_;exact aj () (hv:=rfl) (hp:=trivial)
 |true=>
 obtain⟨jb,hpl,hgl⟩:=hb rfl;clear hb;have hS:=mR.of hB jb;refine go ?_;refine ak (LA (s:=s) (t:=t) (sc:=sc) (st:=st)) (next:=λb hb=>?_);cases b with
 |false=>
  refine go ?_;exact aj () (hv:=rfl) (hp:=trivial)
 |true=>
 obtain⟨Zk,Zl⟩:=hb rfl;clear hb;refine go ?_;refine ak (yM (k:=k) (s:=s) (t:=t) (p:=p) (vh:=vh) (vs:=vs) (vr:=vr) (vc:=vc) (vu:=vu) (gh:=gh) (gc:=gc) (vn:=vn) (vl:=vl) hS hP hs ht) (next:=λy2 hy2=>?_);obtain⟨v11,x,e2⟩:=y2;dsimp only at hy2⊢;obtain⟨hI,hx0,hnil⟩:=hy2;refine go ?_;intro b7;by_cases h2:e2=0
 rotate_left
 ·have hnil:=hnil h2;subst hnil;refine go ?_;refine aJ rfl (λq=>?_) (λq=>absurd h2 q);refine go ?_;exact aj () (hv:=rfl) (hp:=trivial)
 subst h2;have hK:bF k:=Classical.byContradiction λh=>by have:=hI.nk h;omega
 have hk:gB k s t:=Classical.byContradiction λh=>by have:=hI.ns hK h;omega
 have hQ:iQ k p:=Classical.byContradiction λh=>by have:=hI.np hK hk h;omega
 have hx:=hx0 rfl;have Ae:=Gt hK hk hQ hx;have hxl:=anh hK hk hQ hx;have aol:=hK.typ.lim.c;refine fO (ah bG v11 x) (λw hw=>hw (iT ((0:Int)=0) (ah bG v11 x)) (by simp) rfl) ?_;refine bY (E:=bG) (v:=v11) (xs:=x) (by simp) λax1 cx1 ex1=>?_;subst ex1;refine bY (E:=bG) (v:=vp) (xs:=p) (by simp) λYm cp1 ep1=>?_;subst ep1;refine bY (E:=dX) (v:=vc) (xs:=k.decl.bI) (by simp) λac1 cc1 ec1=>?_;subst ec1;refine go ?_;refine aJ rfl (λq=>absurd (by omega) q) (λ_=>?_);refine go ?_;refine bQ (λci:Nat=>k.decl.bI.length - ci) (λci=>[(9,.int .i64 (ci:Int))]) (λ_=>[]) (λ_=>[]) (λci=>ci<=k.decl.bI.length) 0 (dK _) (body:=?_);intro ci hci;refine go ?_;refine aJ rfl (λh1=>?_) (λh1=>?_)
 rotate_left
 ·refine go ?_;exact aj () (hv:=rfl) (hp:=trivial)
 have hcl:k.decl.bI[ci]? =some k.decl.bI[ci]:=bC (by omega);generalize k.decl.bI[ci]=cl at hcl;refine go ?_;refine bQ (λy:Nat×Int×Int×Int=>p.length - y.1) (λy=>[(13,.int .i64 (y.1:Int)),(12,.int .i64 y.2.2.2),(11,.int .i64 y.2.2.1),(10,.int .i64 y.2.1)]) (λ_=>[]) (λ_=>[]) (λy=>y.1<=p.length/\y.2.1=abI (acg (ci:Int)) (p.take y.1) - abI (acg (ci:Int)) (x.take y.1)/\y.2.2.1=abI (acn (ci:Int)) (p.take y.1) - abI (acn (ci:Int)) (x.take y.1)/\y.2.2.2=abI (abh (ci:Int) cl.type) (p.take y.1) - abI (abh (ci:Int) cl.type) (x.take y.1)) (0,0,0,0) ⟨dK _,by simp[abI],by simp[abI],by simp[abI]⟩ (body:=?_);rintro⟨i,a,b,d⟩ ⟨hi,ha,hb,hd⟩;dsimp only at hi ha hb hd⊢;have bp:=aio hK hQ hpl (ci:Int) cl.type i;have bx:=aio hK Ae (by omega) (ci:Int) cl.type i;refine go ?_;refine aJ rfl (λh3=>?_) (λh3=>?_)
 rotate_left
 ·have hie:i=p.length:=by omega
  subst hie;have hw:=anH hK hk hQ hx hcl;rw[eH,show x.take p.length=x by rw[<- hxl,eH]]at ha hb hd;obtain rfl:a=0:=by omega
  obtain rfl:b=0:=by omega
  obtain rfl:d=0:=by omega
  refine go ?_;exact bi (ci+1) (by show k.decl.bI.length - (ci+1)<k.decl.bI.length - ci;omega) (by show ci+1<=_;omega)
 refine go ?_;refine bZ bG (xs:=p) (next:=λ_ _ g (vg:Value) hg=>?_);have hgm:=aR hg;obtain⟨hgl,hgv⟩:=kY.bd hK (hQ.right g hgm);refine go ?_;refine aJ rfl (λhgc=>?_) (λhgc=>?_)
 rotate_left
 ·have htt:True:=trivial;refine go ?_;refine bZ bG (xs:=x) (next:=λ_ _ gx (vgx:Value) hgx=>?_);have adn:=aR hgx;obtain⟨hxl,hxv⟩:=kY.bd hK (Ae.right gx adn);refine go ?_;refine aJ rfl (λDV=>?_) (λDV=>?_)
  rotate_left
  ·refine go ?_;refine bi (i+1,a,b,d) (by show p.length - (i+1)<p.length - i;omega) ⟨by show i+1<=_;omega,?_,?_,?_⟩
   ·dsimp only;rw[aaQ hg,aaQ hgx];simp only[acg,hgc,DV,if_true,if_false];omega
   ·dsimp only;rw[aaQ hg,aaQ hgx];simp only[acn,hgc,DV,if_true,if_false];omega
   ·dsimp only;rw[aaQ hg,aaQ hgx];first|(simp only[abh,hgc,DV,htt,if_true,if_false];omega)|(simp[abh,hgc,DV,htt];omega)
  refine go ?_;refine bZ bG (xs:=x) (next:=λ_ _ gx2 (vgx:Value) hgx2=>?_);rw[hgx]at hgx2;obtain rfl:gx=gx2:=Option.some.inj hgx2;refine go ?_;have hsx:=acs hxv;refine bQ (λy:Nat×Int=>gx.values.length - y.1) (λy=>[(15,.int .i64 (y.1:Int)),(12,.int .i64 y.2)]) (λ_=>[]) (λ_=>[]) (λy=>y.1<=gx.values.length/\y.2=d - (if cl.type≠1 then abQ (gx.values.take y.1)else 0)) (0,d) ⟨dK _,by show d=d - (if cl.type≠1 then abQ (gx.values.take 0)else 0);rw[afB];simp[abQ]⟩ (body:=?_);rintro⟨j,e'⟩ ⟨hj,he'⟩;dsimp only at hj he'⊢;have hsj:=acs (L:=gx.values.take j) (λv hv=>hxv v (LF hv));rw[iL]at hsj;refine go ?_;refine bZ bG (xs:=x) (next:=λ_ _ gx3 (vgx:Value) acE=>?_);rw[hgx]at acE;obtain rfl:gx=gx3:=Option.some.inj acE;refine go ?_;refine gG (λhjl=>?_) (λhjl=>?_)
  ·have iM:j=gx.values.length:=by omega
   subst iM;rw[eH]at he';by_cases hty:cl.type=1
   ·have abf:¬cl.type≠1:=λq=>q hty;rw[if_neg abf]at he';refine go ?_;refine bi (i+1,a - 1,b - (gx.values.length:Int),e') (by show p.length - (i+1)<p.length - i;omega) ⟨by show i+1<=_;omega,?_,?_,?_⟩
    ·dsimp only;rw[aaQ hg,aaQ hgx];simp only[acg,hgc,DV,if_true,if_false];omega
    ·dsimp only;rw[aaQ hg,aaQ hgx];simp only[acn,hgc,DV,if_true,if_false];omega
    ·dsimp only;rw[aaQ hg,aaQ hgx];first|(simp only[abh,hgc,DV,abf,if_true,if_false];omega)|(simp[abh,hgc,DV,abf];omega)
   ·have abf:cl.type≠1:=hty;rw[if_pos abf]at he';refine go ?_;refine bi (i+1,a - 1,b - (gx.values.length:Int),e') (by show p.length - (i+1)<p.length - i;omega) ⟨by show i+1<=_;omega,?_,?_,?_⟩
    ·dsimp only;rw[aaQ hg,aaQ hgx];simp only[acg,hgc,DV,if_true,if_false];omega
    ·dsimp only;rw[aaQ hg,aaQ hgx];simp only[acn,hgc,DV,if_true,if_false];omega
    ·dsimp only;rw[aaQ hg,aaQ hgx];first|(simp only[abh,hgc,DV,abf,if_true,if_false];omega)|(simp[abh,hgc,DV,abf];omega)
  refine go ?_;refine bZ dX (xs:=k.decl.bI) (next:=λ_ _ XQ (_:Unit) Nh=>?_);rw[hcl]at Nh;obtain rfl:cl=XQ:=Option.some.inj Nh;refine go ?_;refine aJ rfl (λhty=>?_) (λhty=>?_)
  ·rw[if_pos hty]at he';refine go ?_;refine bZ bG (xs:=x) (next:=λ_ _ gx4 (vgx:Value) acK=>?_);rw[hgx]at acK;obtain rfl:gx=gx4:=Option.some.inj acK;refine go ?_;intro _ _ v hv;have hvb:=hxv v (aR hv);refine go ?_;refine bi (j+1,e' - v) (by show gx.values.length - (j+1)<gx.values.length - j;omega) ⟨by show j+1<=_;omega,?_⟩;show e' - v=d - (if cl.type≠1 then abQ (gx.values.take (j+1))else 0);rw[if_pos hty,ae1 hv];omega
  have abf:¬cl.type≠1:=hty;rw[if_neg abf]at he';refine go ?_;refine bi (i+1,a - 1,b - (gx.values.length:Int),e') (by show p.length - (i+1)<p.length - i;omega) ⟨by show i+1<=_;omega,?_,?_,?_⟩
  ·dsimp only;rw[aaQ hg,aaQ hgx];simp only[acg,hgc,DV,if_true,if_false];omega
  ·dsimp only;rw[aaQ hg,aaQ hgx];simp only[acn,hgc,DV,if_true,if_false];omega
  ·dsimp only;rw[aaQ hg,aaQ hgx];first|(simp only[abh,hgc,DV,abf,if_true,if_false];omega)|(simp[abh,hgc,DV,abf];omega)
 refine go ?_;refine bZ bG (xs:=p) (next:=λ_ _ g2 (vg:Value) hg2=>?_);rw[hg]at hg2;obtain rfl:g=g2:=Option.some.inj hg2;refine go ?_;have hsg:=acs hgv;refine bQ (λy:Nat×Int=>g.values.length - y.1) (λy=>[(14,.int .i64 (y.1:Int)),(12,.int .i64 y.2)]) (λ_=>[]) (λ_=>[]) (λy=>y.1<=g.values.length/\y.2=d+(if cl.type≠1 then abQ (g.values.take y.1)else 0)) (0,d) ⟨dK _,by show d=d+(if cl.type≠1 then abQ (g.values.take 0)else 0);rw[afB];simp[abQ]⟩ (body:=?_);rintro⟨j,d'⟩ ⟨hj,hd'⟩;dsimp only at hj hd'⊢;have hsj:=acs (L:=g.values.take j) (λv hv=>hgv v (LF hv));rw[iL]at hsj;refine go ?_;refine bZ bG (xs:=p) (next:=λ_ _ g3 (vg:Value) hg3=>?_);rw[hg]at hg3;obtain rfl:g=g3:=Option.some.inj hg3;refine go ?_;refine gG (λhjl=>?_) (λhjl=>?_)
 ·have iM:j=g.values.length:=by omega
  subst iM;rw[eH]at hd';by_cases hty:cl.type=1
  ·have adj:¬cl.type≠1:=λq=>q hty;rw[if_neg adj]at hd';refine go ?_;refine bZ bG (xs:=x) (next:=λ_ _ gx (vgx:Value) hgx=>?_);have adn:=aR hgx;obtain⟨hxl,hxv⟩:=kY.bd hK (Ae.right gx adn);refine go ?_;refine aJ rfl (λDV=>?_) (λDV=>?_)
   rotate_left
   ·refine go ?_;refine bi (i+1,a+1,b+(g.values.length:Int),d') (by show p.length - (i+1)<p.length - i;omega) ⟨by show i+1<=_;omega,?_,?_,?_⟩
    ·dsimp only;rw[aaQ hg,aaQ hgx];simp only[acg,hgc,DV,if_true,if_false];omega
    ·dsimp only;rw[aaQ hg,aaQ hgx];simp only[acn,hgc,DV,if_true,if_false];omega
    ·dsimp only;rw[aaQ hg,aaQ hgx];first|(simp only[abh,hgc,DV,adj,if_true,if_false];omega)|(simp[abh,hgc,DV,adj];omega)
   refine go ?_;refine bZ bG (xs:=x) (next:=λ_ _ gx2 (vgx:Value) hgx2=>?_);rw[hgx]at hgx2;obtain rfl:gx=gx2:=Option.some.inj hgx2;refine go ?_;have hsx:=acs hxv;refine bQ (λy:Nat×Int=>gx.values.length - y.1) (λy=>[(15,.int .i64 (y.1:Int)),(12,.int .i64 y.2)]) (λ_=>[]) (λ_=>[]) (λy=>y.1<=gx.values.length/\y.2=d' - (if cl.type≠1 then abQ (gx.values.take y.1)else 0)) (0,d') ⟨dK _,by show d'=d' - (if cl.type≠1 then abQ (gx.values.take 0)else 0);rw[afB];simp[abQ]⟩ (body:=?_);rintro⟨j,e'⟩ ⟨hj,he'⟩;dsimp only at hj he'⊢;have hsj:=acs (L:=gx.values.take j) (λv hv=>hxv v (LF hv));rw[iL]at hsj;refine go ?_;refine bZ bG (xs:=x) (next:=λ_ _ gx3 (vgx:Value) acE=>?_);rw[hgx]at acE;obtain rfl:gx=gx3:=Option.some.inj acE;refine go ?_;refine gG (λhjl=>?_) (λhjl=>?_)
   ·have iM:j=gx.values.length:=by omega
    subst iM;rw[eH]at he';by_cases hty:cl.type=1
    ·have abf:¬cl.type≠1:=λq=>q hty;rw[if_neg abf]at he';refine go ?_;refine bi (i+1,a+1 - 1,b+(g.values.length:Int) - (gx.values.length:Int),e') (by show p.length - (i+1)<p.length - i;omega) ⟨by show i+1<=_;omega,?_,?_,?_⟩
     ·dsimp only;rw[aaQ hg,aaQ hgx];simp only[acg,hgc,DV,if_true,if_false];omega
     ·dsimp only;rw[aaQ hg,aaQ hgx];simp only[acn,hgc,DV,if_true,if_false];omega
     ·dsimp only;rw[aaQ hg,aaQ hgx];first|(simp only[abh,hgc,DV,abf,if_true,if_false];omega)|(simp[abh,hgc,DV,abf];omega)
    ·have abf:cl.type≠1:=hty;rw[if_pos abf]at he';refine go ?_;refine bi (i+1,a+1 - 1,b+(g.values.length:Int) - (gx.values.length:Int),e') (by show p.length - (i+1)<p.length - i;omega) ⟨by show i+1<=_;omega,?_,?_,?_⟩
     ·dsimp only;rw[aaQ hg,aaQ hgx];simp only[acg,hgc,DV,if_true,if_false];omega
     ·dsimp only;rw[aaQ hg,aaQ hgx];simp only[acn,hgc,DV,if_true,if_false];omega
     ·dsimp only;rw[aaQ hg,aaQ hgx];first|(simp only[abh,hgc,DV,abf,if_true,if_false];omega)|(simp[abh,hgc,DV,abf];omega)
   refine go ?_;refine bZ dX (xs:=k.decl.bI) (next:=λ_ _ XQ (_:Unit) Nh=>?_);rw[hcl]at Nh;obtain rfl:cl=XQ:=Option.some.inj Nh;refine go ?_;refine aJ rfl (λhty=>?_) (λhty=>?_)
   ·rw[if_pos hty]at he';refine go ?_;refine bZ bG (xs:=x) (next:=λ_ _ gx4 (vgx:Value) acK=>?_);rw[hgx]at acK;obtain rfl:gx=gx4:=Option.some.inj acK;refine go ?_;intro _ _ v hv;have hvb:=hxv v (aR hv);refine go ?_;refine bi (j+1,e' - v) (by show gx.values.length - (j+1)<gx.values.length - j;omega) ⟨by show j+1<=_;omega,?_⟩;show e' - v=d' - (if cl.type≠1 then abQ (gx.values.take (j+1))else 0);rw[if_pos hty,ae1 hv];omega
   have abf:¬cl.type≠1:=hty;rw[if_neg abf]at he';refine go ?_;refine bi (i+1,a+1 - 1,b+(g.values.length:Int) - (gx.values.length:Int),e') (by show p.length - (i+1)<p.length - i;omega) ⟨by show i+1<=_;omega,?_,?_,?_⟩
   ·dsimp only;rw[aaQ hg,aaQ hgx];simp only[acg,hgc,DV,if_true,if_false];omega
   ·dsimp only;rw[aaQ hg,aaQ hgx];simp only[acn,hgc,DV,if_true,if_false];omega
   ·dsimp only;rw[aaQ hg,aaQ hgx];first|(simp only[abh,hgc,DV,abf,if_true,if_false];omega)|(simp[abh,hgc,DV,abf];omega)
  ·have adj:cl.type≠1:=hty;rw[if_pos adj]at hd';refine go ?_;refine bZ bG (xs:=x) (next:=λ_ _ gx (vgx:Value) hgx=>?_);have adn:=aR hgx;obtain⟨hxl,hxv⟩:=kY.bd hK (Ae.right gx adn);refine go ?_;refine aJ rfl (λDV=>?_) (λDV=>?_)
   rotate_left
   ·refine go ?_;refine bi (i+1,a+1,b+(g.values.length:Int),d') (by show p.length - (i+1)<p.length - i;omega) ⟨by show i+1<=_;omega,?_,?_,?_⟩
    ·dsimp only;rw[aaQ hg,aaQ hgx];simp only[acg,hgc,DV,if_true,if_false];omega
    ·dsimp only;rw[aaQ hg,aaQ hgx];simp only[acn,hgc,DV,if_true,if_false];omega
    ·dsimp only;rw[aaQ hg,aaQ hgx];first|(simp only[abh,hgc,DV,adj,if_true,if_false];omega)|(simp[abh,hgc,DV,adj];omega)
   refine go ?_;refine bZ bG (xs:=x) (next:=λ_ _ gx2 (vgx:Value) hgx2=>?_);rw[hgx]at hgx2;obtain rfl:gx=gx2:=Option.some.inj hgx2;refine go ?_;have hsx:=acs hxv;refine bQ (λy:Nat×Int=>gx.values.length - y.1) (λy=>[(15,.int .i64 (y.1:Int)),(12,.int .i64 y.2)]) (λ_=>[]) (λ_=>[]) (λy=>y.1<=gx.values.length/\y.2=d' - (if cl.type≠1 then abQ (gx.values.take y.1)else 0)) (0,d') ⟨dK _,by show d'=d' - (if cl.type≠1 then abQ (gx.values.take 0)else 0);rw[afB];simp[abQ]⟩ (body:=?_);rintro⟨j,e'⟩ ⟨hj,he'⟩;dsimp only at hj he'⊢;have hsj:=acs (L:=gx.values.take j) (λv hv=>hxv v (LF hv));rw[iL]at hsj;refine go ?_;refine bZ bG (xs:=x) (next:=λ_ _ gx3 (vgx:Value) acE=>?_);rw[hgx]at acE;obtain rfl:gx=gx3:=Option.some.inj acE;refine go ?_;refine gG (λhjl=>?_) (λhjl=>?_)
   ·have iM:j=gx.values.length:=by omega
    subst iM;rw[eH]at he';by_cases hty:cl.type=1
    ·have abf:¬cl.type≠1:=λq=>q hty;rw[if_neg abf]at he';refine go ?_;refine bi (i+1,a+1 - 1,b+(g.values.length:Int) - (gx.values.length:Int),e') (by show p.length - (i+1)<p.length - i;omega) ⟨by show i+1<=_;omega,?_,?_,?_⟩
     ·dsimp only;rw[aaQ hg,aaQ hgx];simp only[acg,hgc,DV,if_true,if_false];omega
     ·dsimp only;rw[aaQ hg,aaQ hgx];simp only[acn,hgc,DV,if_true,if_false];omega
     ·dsimp only;rw[aaQ hg,aaQ hgx];first|(simp only[abh,hgc,DV,abf,if_true,if_false];omega)|(simp[abh,hgc,DV,abf];omega)
    ·have abf:cl.type≠1:=hty;rw[if_pos abf]at he';refine go ?_;refine bi (i+1,a+1 - 1,b+(g.values.length:Int) - (gx.values.length:Int),e') (by show p.length - (i+1)<p.length - i;omega) ⟨by show i+1<=_;omega,?_,?_,?_⟩
     ·dsimp only;rw[aaQ hg,aaQ hgx];simp only[acg,hgc,DV,if_true,if_false];omega
     ·dsimp only;rw[aaQ hg,aaQ hgx];simp only[acn,hgc,DV,if_true,if_false];omega
     ·dsimp only;rw[aaQ hg,aaQ hgx];first|(simp only[abh,hgc,DV,abf,if_true,if_false];omega)|(simp[abh,hgc,DV,abf];omega)
   refine go ?_;refine bZ dX (xs:=k.decl.bI) (next:=λ_ _ XQ (_:Unit) Nh=>?_);rw[hcl]at Nh;obtain rfl:cl=XQ:=Option.some.inj Nh;refine go ?_;refine aJ rfl (λhty=>?_) (λhty=>?_)
   ·rw[if_pos hty]at he';refine go ?_;refine bZ bG (xs:=x) (next:=λ_ _ gx4 (vgx:Value) acK=>?_);rw[hgx]at acK;obtain rfl:gx=gx4:=Option.some.inj acK;refine go ?_;intro _ _ v hv;have hvb:=hxv v (aR hv);refine go ?_;refine bi (j+1,e' - v) (by show gx.values.length - (j+1)<gx.values.length - j;omega) ⟨by show j+1<=_;omega,?_⟩;show e' - v=d' - (if cl.type≠1 then abQ (gx.values.take (j+1))else 0);rw[if_pos hty,ae1 hv];omega
   have abf:¬cl.type≠1:=hty;rw[if_neg abf]at he';refine go ?_;refine bi (i+1,a+1 - 1,b+(g.values.length:Int) - (gx.values.length:Int),e') (by show p.length - (i+1)<p.length - i;omega) ⟨by show i+1<=_;omega,?_,?_,?_⟩
   ·dsimp only;rw[aaQ hg,aaQ hgx];simp only[acg,hgc,DV,if_true,if_false];omega
   ·dsimp only;rw[aaQ hg,aaQ hgx];simp only[acn,hgc,DV,if_true,if_false];omega
   ·dsimp only;rw[aaQ hg,aaQ hgx];first|(simp only[abh,hgc,DV,abf,if_true,if_false];omega)|(simp[abh,hgc,DV,abf];omega)
 refine go ?_;refine bZ dX (xs:=k.decl.bI) (next:=λ_ _ XQ (_:Unit) Nh=>?_);rw[hcl]at Nh;obtain rfl:cl=XQ:=Option.some.inj Nh;refine go ?_;refine aJ rfl (λhty=>?_) (λhty=>?_)
 ·rw[if_pos hty]at hd';refine go ?_;refine bZ bG (xs:=p) (next:=λ_ _ g4 (vg:Value) hg4=>?_);rw[hg]at hg4;obtain rfl:g=g4:=Option.some.inj hg4;refine go ?_;intro _ _ v hv;have hvb:=hgv v (aR hv);refine go ?_;refine bi (j+1,d'+v) (by show g.values.length - (j+1)<g.values.length - j;omega) ⟨by show j+1<=_;omega,?_⟩;show d'+v=d+(if cl.type≠1 then abQ (g.values.take (j+1))else 0)
  rw[if_pos hty,ae1 hv];omega
 have adj:¬cl.type≠1:=hty;rw[if_neg adj]at hd';refine go ?_;refine bZ bG (xs:=x) (next:=λ_ _ gx (vgx:Value) hgx=>?_);have adn:=aR hgx;obtain⟨hxl,hxv⟩:=kY.bd hK (Ae.right gx adn);refine go ?_;refine aJ rfl (λDV=>?_) (λDV=>?_)
 rotate_left
 ·refine go ?_;refine bi (i+1,a+1,b+(g.values.length:Int),d') (by show p.length - (i+1)<p.length - i;omega) ⟨by show i+1<=_;omega,?_,?_,?_⟩
  ·dsimp only;rw[aaQ hg,aaQ hgx];simp only[acg,hgc,DV,if_true,if_false];omega
  ·dsimp only;rw[aaQ hg,aaQ hgx];simp only[acn,hgc,DV,if_true,if_false];omega
  ·dsimp only;rw[aaQ hg,aaQ hgx];first|(simp only[abh,hgc,DV,adj,if_true,if_false];omega)|(simp[abh,hgc,DV,adj];omega)
 refine go ?_;refine bZ bG (xs:=x) (next:=λ_ _ gx2 (vgx:Value) hgx2=>?_);rw[hgx]at hgx2;obtain rfl:gx=gx2:=Option.some.inj hgx2;refine go ?_;have hsx:=acs hxv;refine bQ (λy:Nat×Int=>gx.values.length - y.1) (λy=>[(15,.int .i64 (y.1:Int)),(12,.int .i64 y.2)]) (λ_=>[]) (λ_=>[]) (λy=>y.1<=gx.values.length/\y.2=d' - (if cl.type≠1 then abQ (gx.values.take y.1)else 0)) (0,d') ⟨dK _,by show d'=d' - (if cl.type≠1 then abQ (gx.values.take 0)else 0);rw[afB];simp[abQ]⟩ (body:=?_);rintro⟨j,e'⟩ ⟨hj,he'⟩;dsimp only at hj he'⊢;have hsj:=acs (L:=gx.values.take j) (λv hv=>hxv v (LF hv));rw[iL]at hsj;refine go ?_;refine bZ bG (xs:=x) (next:=λ_ _ gx3 (vgx:Value) acE=>?_);rw[hgx]at acE;obtain rfl:gx=gx3:=Option.some.inj acE;refine go ?_;refine gG (λhjl=>?_) (λhjl=>?_)
 ·have iM:j=gx.values.length:=by omega
  subst iM;rw[eH]at he';by_cases hty:cl.type=1
  ·have abf:¬cl.type≠1:=λq=>q hty;rw[if_neg abf]at he';refine go ?_;refine bi (i+1,a+1 - 1,b+(g.values.length:Int) - (gx.values.length:Int),e') (by show p.length - (i+1)<p.length - i;omega) ⟨by show i+1<=_;omega,?_,?_,?_⟩
   ·dsimp only;rw[aaQ hg,aaQ hgx];simp only[acg,hgc,DV,if_true,if_false];omega
   ·dsimp only;rw[aaQ hg,aaQ hgx];simp only[acn,hgc,DV,if_true,if_false];omega
   ·dsimp only;rw[aaQ hg,aaQ hgx];first|(simp only[abh,hgc,DV,abf,if_true,if_false];omega)|(simp[abh,hgc,DV,abf];omega)
  ·have abf:cl.type≠1:=hty;rw[if_pos abf]at he';refine go ?_;refine bi (i+1,a+1 - 1,b+(g.values.length:Int) - (gx.values.length:Int),e') (by show p.length - (i+1)<p.length - i;omega) ⟨by show i+1<=_;omega,?_,?_,?_⟩
   ·dsimp only;rw[aaQ hg,aaQ hgx];simp only[acg,hgc,DV,if_true,if_false];omega
   ·dsimp only;rw[aaQ hg,aaQ hgx];simp only[acn,hgc,DV,if_true,if_false];omega
   ·dsimp only;rw[aaQ hg,aaQ hgx];first|(simp only[abh,hgc,DV,abf,if_true,if_false];omega)|(simp[abh,hgc,DV,abf];omega)
 refine go ?_;refine bZ dX (xs:=k.decl.bI) (next:=λ_ _ XQ (_:Unit) Nh=>?_);rw[hcl]at Nh;obtain rfl:cl=XQ:=Option.some.inj Nh;refine go ?_;refine aJ rfl (λhty=>?_) (λhty=>?_)
 ·rw[if_pos hty]at he';refine go ?_;refine bZ bG (xs:=x) (next:=λ_ _ gx4 (vgx:Value) acK=>?_);rw[hgx]at acK;obtain rfl:gx=gx4:=Option.some.inj acK;refine go ?_;intro _ _ v hv;have hvb:=hxv v (aR hv);refine go ?_;refine bi (j+1,e' - v) (by show gx.values.length - (j+1)<gx.values.length - j;omega) ⟨by show j+1<=_;omega,?_⟩;show e' - v=d' - (if cl.type≠1 then abQ (gx.values.take (j+1))else 0);rw[if_pos hty,ae1 hv];omega
 have abf:¬cl.type≠1:=hty;rw[if_neg abf]at he';refine go ?_;refine bi (i+1,a+1 - 1,b+(g.values.length:Int) - (gx.values.length:Int),e') (by show p.length - (i+1)<p.length - i;omega) ⟨by show i+1<=_;omega,?_,?_,?_⟩
 ·dsimp only;rw[aaQ hg,aaQ hgx];simp only[acg,hgc,DV,if_true,if_false];omega
 ·dsimp only;rw[aaQ hg,aaQ hgx];simp only[acn,hgc,DV,if_true,if_false];omega
 ·dsimp only;rw[aaQ hg,aaQ hgx];first|(simp only[abh,hgc,DV,abf,if_true,if_false];omega)|(simp[abh,hgc,DV,abf];omega)
