/- Part. -/
import Derived.Test.YtoilpafpgndilaaGreatLibMJ
set_option linter.all false
set_option maxRecDepth 10000
set_option maxHeartbeats 4000000
namespace Go.Proofs.YtoilpafpgndilaaGreat
open Go.Ideal Kd Canon
structure atS(k:aQ)(s t grid:List Int)(e:Int):Prop where
 nk:¬bE k->e=180
 ns:bE k->¬eU k s t->e=230
 nf:bE k->eU k s t->¬EP k grid->e=200
 ok:bE k->eU k s t->EP k grid->e=0
variable{k:aQ}{t s:ae Int}
def EP.gri{grid:ae Int}(hk:eU k s t)(hF:EP k grid):lX k.grid.cells.length k.decl.symbols.length s t grid (Ke s t grid):=by
 obtain⟨h1,h2⟩:=hF;exact an1 hk.pc hk.ps s6 λx hx=>by have:=h2 x hx;omega
def iF(k:aQ)(s:ae Int)(g:Clue):Clue×Bool:=
 match k.decl.bV[g.aS.toNat]? with
 |none=>(g,false)
 |some c=>(⟨g.aS,iQ (k.lists.getD c.family.toNat []) s c.family g.at_,g.values⟩,iE s ((k.lists.getD c.family.toNat []).getD g.at_.toNat []) ((k.lists.getD c.family.toNat []).getD (iQ (k.lists.getD c.family.toNat []) s c.family g.at_).toNat []))
def oD(k:aQ)(t:ae Int)(x:Clue×Bool):Clue:=
 match k.decl.bV[x.1.aS.toNat]? with
 |none=>x.1
 |some c=>⟨x.1.aS,x.1.at_,if c.type=1 then img t x.1.values else if c.type=3/\x.2=true then x.1.values.reverse else x.1.values⟩
def aoM(k:aQ)(s t:ae Int)(g:Clue):oD k t (iF k s g)=fw k s t g:=by
 unfold iF fw;cases h:k.decl.bV[g.aS.toNat]? with
 |none=>
  dsimp only;unfold oD;rw[h]
 |some c=>
  dsimp only;unfold oD;dsimp only;rw[h];rfl
variable{g:Clue}{c:ji}
def Kb.iF{L:ae (ae Int)}{j i:Nat}{l l':ae Int}(G:Kb k s t g c L j i l l'):iF k s g=(⟨g.aS,(i:Int),g.values⟩,iE s l l'):=by
 have hw:=G.goes.iQ G.iK;unfold Go.Proofs.YtoilpafpgndilaaGreat.iF;rw[G.hc];dsimp only;rw[gJ G.hL,G.at_,hw,fM,fM,gJ G.hl,gJ G.hl']
abbrev CE:=(Clue×ah)×Bool
def mJ(x:CE):Clue×Bool:=(x.1.1,x.2)
def G8(x:CE):ae ah:=[qC x.1.1 x.1.2,.bool x.2]
def EW(x:CE):ae aI:=[aj ai x.1.2 x.1.1.values]
def oF(l:ae (Clue×Bool)):ae CE:=l.map λy=>((y.1,.nilFunc),y.2)
def OJ(l:ae (Clue×Bool)):(oF l).map mJ=l:=by
 unfold oF;rw[rG];have:mJ∘(λy:Clue×Bool=>(((y.1,Value.nilFunc),y.2):CE))=id:=rfl;rw[this,BX]
variable{vh vs vr vc vu gh gc vn vl sc st vp:ah}
def aoN:
 aX Tryz.prog (.func 51) [.agg ⟨jO k vh vs vr vc vu gh gc vn vl⟩,.agg ⟨[sc,st]⟩,.agg ⟨[vp]⟩] [] [] [] (λy:Nat×Nat×Nat=>.func (.func 93) #[] #[ptr' y.1,ptr' y.2.1,ptr' y.2.2]) (λ_=>[])
  (λy=>[bW y.1 0 [vp],bW y.2.1 0 (jO k vh vs vr vc vu gh gc vn vl),bW y.2.2 0 [sc,st]]) (λ_=>True):=by
 refine gB 51 λB w0=>?_;refine go ?_;intro b3 b4 b5;refine go ?_;refine gP b3 ?_;refine gP b4 ?_;refine gP b5 ?_;exact gQ (b5,b3,b4) trivial
def aoO{b:Nat}{vw:ah}{w:ae Int}(hw:w.length<=1000000)(x:ae Int)(hx:x.length<=1000000):zM Tryz.prog (.func 97) [] [ptr' b] [bW b 0 [vw],aj ai vw (bK w)] (λx=>kL x w) x:=by
 have h1:=Bb x;intro v;rw[cK];refine gB 97 λB w0=>?_;refine gC (abz (v:=v) (xs:=x)) λb1 _=>?_;refine gC (TK (abA (b:=b1) (v:=v) (xs:=x) s6) (λys h=>by rw[h];exact hx)) λy hy=>?_;obtain⟨v2,EO⟩:=y;have hy:EO=x:=hy;subst hy;dsimp only[List.cons_append,List.nil_append];refine mD (A:=ap ai v2 (bK EO)) (fs:=[aj ai v2 (bK EO)]) jr (h:=?_);refine gC (vR (xs:=bK EO) (ys:=bK w) s6) λ_ _=>?_;exact eH
variable{p:ae Clue}
def aoP{bk bs bp:Nat}(hK:bE k)(hk:eU k s t)(hQ:fK k p):
 Gn Tryz.prog G8 EW (.func 93) [] [ptr' bp,ptr' bk,ptr' bs] [bW bp 0 [vp],bW bk 0 (jO k vh vs vr vc vu gh gc vn vl),bW bs 0 [sc,st],aj aY vp p,aj ai sc s,aj eZ vc k.decl.bV,aj (az (az ai)) vl k.lists] (λxs=>xs.map mJ=p.map (iF k s)):=by
 intro S inv ok step s0 tq y1 y2 F' h0 hok hy;rw[dm,dm,dm,dm,dm,dm,dm,cK];have hpl:=hQ.len;have hsl:=hk.pc.len;have hn:=hK.zH;have Kn:∀r∈k.decl.regions,xe (bP k.decl) r.lists:=λr hr=>(hK.typ.Dc r hr).1.2;have Ko:=NI hK.bO Kn;have hlin:=aab hK.bO Kn;rw[<- hK.lists]at Ko hlin;refine gB 93 λB w0=>?_;refine gF aY vp p λap1 cp ep=>?_;subst ep;refine gF ai sc s λasc csc esc=>?_;subst esc;refine go ?_;refine dV (λy:Nat×ae CE×S=>p.length - y.1) (λy=>[(17,iV (y.1:Int))]) (λy=>inv y.2.2) (λ_=>[]) (λy=>y.1<=p.length/\ok y.2.1 y.2.2/\y.2.1.map mJ=(p.take y.1).map (iF k s)/\∀rest,dA step s0 (y.2.1++rest)=dA step y.2.2 rest) (0,[],s0) ⟨bM _,h0,rfl,λ_=>rfl⟩ (body:=?_);rintro⟨jj,di,bX⟩ ⟨hj,hos,lH,hrun⟩;dsimp only at hj hos lH hrun⊢;refine aO ?_ ?_<;>intro h1
 rotate_left
 .have jT:jj=p.length:=by omega
  subst jT;rw[fu]at lH;have hr2:=hrun [];rw[gW]at hr2;refine go ?_;exact gQ di lH (hk:=by rw[hr2];exact aF.all _)
 refine gX aY (xs:=p) λ_ _ g (vg:ah) hg=>?_;have hgm:=aT hg;obtain⟨c,L,j,i,l,l',G⟩:=yM hK hk (hQ.right g hgm);obtain⟨Kq,OL,dY⟩:=g;have hcl:0<=Kq:=G.aS;have aoQ:OL=(j:Int):=G.at_;obtain⟨cn,rfl⟩:=gV hcl;subst aoQ
 have hcc:k.decl.bV[cn]? =some c:=by have:=G.hc;dsimp only at this;rwa [fM]at this
 have acz:=(aV.1 hcc).1;have aoR:=hK.iK c (aT hcc);obtain⟨fn,hfn⟩:=gV aoR.1;have Kt:=G.hL;rw[hfn,fM]at Kt;have Di:=aT Kt;have atT:=Ko L Di;have uD:∀x∈L,x.length<=4096:=λx hx=>(hlin L Di x hx).1;have hlr:=G.iK.dJ l (aT G.hl);have hlen:=uD l (aT G.hl);have hil:(img s l).length=l.length:=EF s l;have ng:=G.goes.iQ G.iK;have hjl:=(aV.1 G.hl).1;have atU:=(aV.1 G.hl').1;refine go ?_;intro b6;refine gX eZ (xs:=k.decl.bV) (k:=cn) λ_ _ c2 (_:Unit) hc2=>?_;rw[hcc]at hc2;obtain rfl:c=c2:=Option.some.inj hc2;refine go ?_;rw[hfn];refine gX (az (az ai)) (xs:=k.lists) (k:=fn) λ_ _ L2 (vL:ah) hL2=>?_;rw[Kt]at hL2;obtain rfl:L=L2:=Option.some.inj hL2;refine gF (az ai) vL L λaL cL eL=>?_;subst eL;refine gX (az ai) (xs:=L) (k:=j) λ_ _ l2 (zO:ah) hl2=>?_;rw[G.hl]at hl2;obtain rfl:l=l2:=Option.some.inj hl2;refine gF ai zO l λal cl el=>?_;subst el;refine go ?_;refine lT ai ?_;refine dV (λy:Nat×ah=>l.length - y.1) (λy=>[(40,iV (y.1:Int)),(9,y.2)]) (λy=>ap ai y.2 (img s (l.take y.1))::pt b6 (.cells [iV (cn:Int),iV (j:Int),vg])::inv bX) (λ_=>[]) (λy=>y.1<=l.length) (0,.slice none 0 0) (bM _) (hk:=by repeat (first|exact aF.all _|exact aF.nil|(apply aF.cons;(focus (repeat (first|exact aB.here|apply aB.there)))))) (body:=?_);rintro⟨q,v9⟩ hq;dsimp only at hq⊢;have hql:(img s (l.take q)).length=q:=by rw[EF,fU];omega
 refine aO ?_ ?_<;>intro h2
 .refine go ?_;intro _ _ x hx;have mZ:=hlr x (aT hx);obtain⟨xn,rfl⟩:=gV mZ.1;refine go ?_;intro _ _ z hz;have hzg:=iW hz;have htk:img s (l.take (q+1))=img s (l.take q)++[z]:=by
   unfold img;rw[fF hx,cB,l6,hzg]
  refine go ?_;intro b50;refine go ?_;refine kY (xs:=img s (l.take q)) ai z () s6 (next:=λad=>?_);rw[<- htk];refine go ?_;exact aU (q+1,.slice ad ((img s (l.take q)).length+1) ((img s (l.take q)).length+1)) (by show l.length - (q+1)<l.length - q;omega) (by show q+1<=_;omega)
 have hqe:q=l.length:=s6
 subst hqe;rw[fu]at hql⊢;refine Da (E:=ai) (v:=v9) (xs:=img s l) λa9 hv=>?_;subst hv;refine gH ?_ ?_<;>intro c0
 rotate_left
 .have hcf:c.family=0:=by omega
  exact be
 refine gH ?_ ?_<;>intro c4
 rotate_left
 .have hcf:c.family=4:=by omega
  exact be
 refine aO ?_ ?_<;>intro c5
 .have hcf:c.family=5:=by omega
  exact be
 refine gC (anI (a:=a9) (n:=(img s l).length) (c:=(img s l).length)) λb1 _=>?_;refine gC (anM (A:=ap ai (.slice a9 (img s l).length (img s l).length) (img s l)) (anJ (b:=b1) (a:=a9) (xs:=img s l) s6) (λys h=>by rw[h];omega)) λy hy2=>?_;obtain⟨v2,EO⟩:=y;have hy2:EO=img s l:=hy2;subst hy2;dsimp only[List.cons_append,List.nil_append];refine mD (A:=ap ai v2 (bK (img s l))) (fs:=[aj ai v2 (bK (img s l))]) jr (h:=?_);refine gF ai v2 (bK (img s l)) λa12 c12 e12=>?_;subst e12;refine go ?_;intro b12;refine go ?_;refine gP b12 ?_;refine gC (Uu (fn:=.func 97) (first:=[]) (cap:=[ptr' b12]) (F1:=[bW b12 0 [.slice a12 (bK (img s l)).length c12],aj ai (.slice a12 (bK (img s l)).length c12) (bK (img s l))]) (p:=λx=>kL x (img s l)) (va:=.slice aL L.length cL) (xs:=L) s6 (λx hx=>aoO s6 x (by have:=uD x hx;omega))) λ_ _=>?_;rw[show qh (λx=>kL x (img s l)) L=(i:Int)by
  have h3:=ng;unfold iQ at h3;rw[if_neg (by
   unfold lg;have a0:c.family≠0:=s6
   have a4:c.family≠4:=s6
   have a5:c.family≠5:=s6
   simp[a0,a4,a5]),fM,gJ G.hl]at h3
  exact h3]
 refine go ?_;refine gX (az ai) (xs:=L) (k:=i) λ_ _ l2 (zO:ah) hl2=>?_;rw[G.hl']at hl2;obtain rfl:l'=l2:=Option.some.inj hl2;refine gC (Dg (a:=a9) (xs:=img s l) (ys:=l') Cl) λ_ _=>?_;refine gC (GZ (a:=a9) (xs:=img s l) Cl) λ_ _=>?_;generalize hxd:(((⟨(cn:Int),(i:Int),dY⟩,vg),iE s l l'):CE)=x;have hnx:(p.take (jj+1)).map (iF k s)=(p.take jj).map (iF k s)++[mJ x]:=by
  rw[fF hg,cB,l6,<- hxd,G.iF];rfl
 have hX:(di++x::oF ((p.drop (jj+1)).map (iF k s))).map mJ=p.map (iF k s):=by
  rw[cB,fA,OJ,lH];conv=>rhs;rw[<- nE (jj+1) p,cB,hnx,List.append_assoc]
  rfl
 have gy:=hy _ bX _ _ hos hX;rw[show G8 x=[qC ⟨(cn:Int),(i:Int),dY⟩ vg,.bool (iE s l l')]by rw[<- hxd];rfl,show EW x=[aj ai vg dY]by rw[<- hxd];rfl]at gy;rw[dm,cK]at gy;have hrl:(img s l).reverse.length=(img s l).length:=Fq;by_cases e0:img s l=l'
 .rw[eT e0];have htb:iE s l l'=false:=by unfold iE;simp[e0]
  rw[htb]at gy;refine gC gy λ_ _=>?_;cases hst:(step bX x).2 with
  |true=>
   exact bj
  |false=>
   exact ck
 .rw[bY e0];have htb:iE s l l'=decide ((img s l).reverse=l'):=by unfold iE;simp[e0]
  rw[htb]at gy;refine gX (az ai) (xs:=L) (k:=i) λ_ _ l3 (J9:ah) hl3=>?_;rw[G.hl']at hl3;obtain rfl:l'=l3:=Option.some.inj hl3;refine go ?_;rw[<- hrl];refine iy (Dg (a:=a9) (xs:=(img s l).reverse) (ys:=l') (by rw[hrl,hil];omega)) (next:=λ_ _=>?_);refine gC gy λ_ _=>?_;cases hst:(step bX x).2 with
  |true=>
   exact bj
  |false=>
   exact ck
structure aoT(k:aQ)(s t:List Int)(p:List Clue)(e:Int):Prop where
 nk:¬bE k->e=180
 ns:bE k->¬eU k s t->e=230
 np:bE k->eU k s t->¬fK k p->e=190
 ok:bE k->eU k s t->fK k p->e=0
structure aoU where
 v:Value
 x:List Clue
 e:Int
def acA(k:aQ)(t:ae Int):∀(xs:ae CE) (z:ae Clue),iO (λ(z:ae Clue) (x:CE)=>(z++[oD k t (mJ x)],Out.normal)) z xs=(z++(xs.map mJ).map (oD k t),Out.normal)
 |[],z=>by simp[iO]
 |x::xs,z=>by
  rw[iO];dsimp only;rw[acA k t xs,fA,fA,List.append_assoc];rfl
def aoV{cl at_:Int}{vs:ae Int}{b:Bool}(h:k.decl.bV[cl.toNat]? =some c):oD k t (⟨cl,at_,vs⟩,b)=⟨cl,at_,if c.type=1 then img t vs else if c.type=3/\b=true then vs.reverse else vs⟩:=by
 unfold oD;dsimp only;rw[h]
def ou.NW(h:ou k g):g.values.length<=8:=by
 obtain⟨c',L',a1,a2,a3,a4,a5,a6⟩:=h;rcases a6 with⟨a,b,_⟩|⟨a,b,_⟩|⟨a,_,b,_⟩<;>omega
set_option maxRecDepth 100000 in
def Ku(hS:qg k)(hP:xB p)(hs:s.length<2^63)(ht:t.length<2^63):
 aX Tryz.prog (.func 26) [.agg ⟨jO k vh vs vr vc vu gh gc vn vl⟩,.agg ⟨[sc,st]⟩,.agg ⟨[vp]⟩] [] [] (aj aY vp p::aj ai sc s::aj ai st t::iT k vh vs vr vc vu gh gc vn vl []) (λy:aoU=>.tuple ⟨[.agg ⟨[y.v]⟩,iV y.e]⟩) (λ_=>[])
  (λy=>[nQ (y.e=0) (aj aY y.v y.x)]) (λy=>aoT k s t p y.e/\(y.e=0->ik (p.map (fw k s t)) y.x)/\(y.e≠0->y.v=.slice none 0 0)):=by
 refine En _ (qo 26) λB w0=>?_;dsimp only[iT];refine gF ai st t λast cst est=>?_;subst est;refine go ?_;intro b3 b4 b5 b6;refine gP b3 ?_;refine gP b4 ?_;refine gP b5 ?_;refine gC (aoL (k:=k) (s:=s) (t:=t) hS hs ht) λe he=>?_;refine aO (λhne=>?_) (λhz=>?_)
 .refine go ?_;refine tT (c:=e=0) (f:=aj aY (.slice none 0 0) ([]:ae Clue)) hne ?_;exact yB ⟨.slice none 0 0,[],e⟩ (hv:=rfl) (hp:=⟨⟨he.nk,he.ns,λa b _=>absurd (he.ok a b) hne,λa b _=>absurd (he.ok a b) hne⟩,λh=>absurd h hne,λ_=>rfl⟩)
 have hz:e=0:=kv.1 hz;subst hz;have hK:bE k:=Classical.byContradiction λh=>by have:=he.nk h;omega
 have hk:eU k s t:=Classical.byContradiction λh=>by have:=he.ns hK h;omega
 clear he;refine gC (abL (k:=k) (p:=p) hS hP) λe he=>?_;refine aO (λhne=>?_) (λhz=>?_)
 .refine go ?_;refine tT (c:=e=0) (f:=aj aY (.slice none 0 0) ([]:ae Clue)) hne ?_;exact yB ⟨.slice none 0 0,[],e⟩ (hv:=rfl) (hp:=⟨⟨λh=>absurd hK h,λ_ h=>absurd hk h,λa _ b=>he.2.1 a b,λa _ b=>absurd (he.2.2 a b) hne⟩,λh=>absurd h hne,λ_=>rfl⟩)
 have hz:e=0:=kv.1 hz;subst hz;have hQ:fK k p:=Classical.byContradiction λh=>by have:=he.2.1 hK h;omega
 clear he;have hpl:=hQ.len;have htl:=hk.ps.len;have hm:=hK.typ.lim.s1;refine go ?_;intro b8;refine gC (aoN (k:=k) (sc:=sc) (st:=.slice ast t.length cst) (vp:=vp)) λyl _=>?_;refine go ?_;refine lT aY ?_;refine uC (λv:ah=>[pt b8 (.cells [v]),ap aY v ([]:ae Clue)]) (.slice none 0 0) (h:=?_);refine RO (Z:=Nat) (λ(z:ae Clue) (x:CE)=>(z++[oD k t (mJ x)],Out.normal)) (λz=>[Js λv:ah=>[pt b8 (.cells [v]),ap aY v z]]) (λvs z=>z=(vs.map mJ).map (oD k t)) [] _ (λx z=>[pt z (.cells [iV x.1.1.aS,iV x.1.1.at_,x.1.2])]) rfl (λvs z x rest hz _ _=>by rw[hz,cB,cB];rfl)
  (aoP (bk:=yl.2.1) (bs:=yl.2.2) (bp:=yl.1) (k:=k) (s:=s) (t:=t) (p:=p) (sc:=sc) (st:=.slice ast t.length cst) (vp:=vp) hK hk hQ)
  (by intro z x lo o B w0;dsimp only[G8,EW,List.cons_append,List.nil_append,List.zip_cons_cons,List.zip_nil_left,List.reverse_cons,List.reverse_nil];refine go ?_;intro b9;refine go ?_;exact CK b9 rfl) ?_ ?_ (λ_ _=>trivial)
 .rintro di z ⟨⟨⟨Kq,OL,dY⟩,wv⟩,bb⟩ rest b9 lo LL B w0 hz hX;have hxm:(⟨Kq,OL,dY⟩,bb)∈p.map (iF k s):=by rw[<- hX];exact bS.2 ⟨((⟨Kq,OL,dY⟩,wv),bb),s7,rfl⟩
  obtain⟨g,hgm,hge⟩:=bS.1 hxm;obtain⟨c,L,j,i,l,l',G⟩:=yM hK hk (hQ.right g hgm);have hgR:=hQ.right g hgm;rw[G.iF]at hge;injection hge with hge hbe;injection hge with e1 e2 e3;have hcl0:0<=Kq:=by rw[<- e1];exact G.aS
  obtain⟨cn,rfl⟩:=gV hcl0;have hcc:k.decl.bV[cn]? =some c:=by have:=G.hc;rwa [e1,fM]at this
  have acz:=(aV.1 hcc).1;subst e2;have hgv:dY.length<=8/\(c.type=1->dY.length=1):=by
   obtain⟨c',L',a1,a2,a3,a4,a5,a6⟩:=hgR;rw[G.hc]at a2;cases a2;rw[e3]at a6;rcases a6 with⟨a,b,_⟩|⟨a,b,_⟩|⟨a,_,b,_⟩
   .exact⟨s6,λ_=>b⟩
   .exact⟨s6,λh=>by omega⟩
   .exact⟨b,λh=>absurd h a⟩
  have hgr:c.type=1->∀x∈dY,0<=x/\x<(k.decl.symbols.length:Int):=by rw[<- e3];exact G.vals hgR
  have Dj:=aoV (k:=k) (t:=t) (cl:=(cn:Int)) (at_:=(i:Int)) (vs:=dY) (b:=bb) (c:=c) (by rw[fM];exact hcc)
  have hzl:z.length<=512:=by
   have h2:=congrArg List.length hX;rw[aR,eF,aR]at h2;rw[hz,aR,aR];omega
  dsimp only[EW,mJ,List.cons_append,List.nil_append,List.reverse_cons,List.reverse_nil];refine zw (h:=λv=>?_);refine gC (Us (v:=wv) (xs:=dY) s6) λa _=>?_;refine gX eZ (xs:=k.decl.bV) (k:=cn) λ_ _ c2 (_:Unit) hc2=>?_;rw[hcc]at hc2;obtain rfl:c=c2:=Option.some.inj hc2;refine aO ?_ ?_<;>intro t1
  .obtain⟨v0,rfl⟩:∃v0,dY=[v0]:=by
    match dY,hgv.2 t1 with
    |[v0],_=>exact⟨v0,rfl⟩
   have hv0:=hgr t1 v0 (bA.2 rfl);obtain⟨ni,rfl⟩:=gV hv0.1;refine ZB (v:=.slice a [(ni:Int)].length [(ni:Int)].length) (xs:=[(ni:Int)]) s7 λbb2 f pre hf ev=>?_;obtain rfl:a=some ⟨bb2,pre.length,some f⟩:=by injection ev
   refine go ?_;refine ol (b:=bb2) (o:=pre.length+0*1) (cs:=pre++[(ni:Int)].map iV) (iV (ni:Int)) (JI (k:=0) rfl) ?_;refine go ?_;intro _ _ zt hzt;have aoX:=iW hzt;refine go ?_;refine jN (b:=bb2) (o:=pre.length+0*1) (cs:=pre++[(ni:Int)].map iV) (v:=iV zt) (cs':=pre++[zt].map iV) (JJ (k:=0)) s7 ?_;refine ZC (b:=bb2) (f:=f) (m:=1) (pre:=pre) (xs:=[zt]) rfl hf ?_;refine mD (A:=ap ai (.slice (some ⟨bb2,pre.length,some f⟩) 1 1) [zt]) (fs:=[aj ai (.slice (some ⟨bb2,pre.length,some f⟩) 1 1) [zt]]) jr (h:=?_);refine eD (aj ai (.slice (some ⟨bb2,pre.length,some f⟩) 1 1) (oD k t (⟨(cn:Int),(i:Int),[(ni:Int)]⟩,bb)).values) (λw hw=>by rw[Dj,if_pos t1];show(aj ai _ [aH t (ni:Int)]).p w;rw[aoX];exact hw (aj ai (.slice (some ⟨bb2,pre.length,some f⟩) 1 1) [zt]) s7) ?_;refine go ?_;intro b64;refine go ?_;refine kY (xs:=z) aY (oD k t (⟨(cn:Int),(i:Int),[(ni:Int)]⟩,bb)) (.slice (some ⟨bb2,pre.length,some f⟩) 1 1) s6 (hp:=AD) (next:=λad=>?_);refine go ?_;refine uC (λv:ah=>[pt b8 (.cells [v]),ap aY v (z++[oD k t (⟨(cn:Int),(i:Int),[(ni:Int)]⟩,bb)])]) _ (h:=?_);exact fg
  refine aO ?_ ?_<;>intro t3
  .refine go ?_;cases bb with
   |true=>
    refine gC (GZ (a:=a) (xs:=dY) s6) λ_ _=>?_;refine mD (A:=ap ai (.slice a dY.length dY.length) dY.reverse) (fs:=[aj ai (.slice a dY.length dY.length) dY.reverse]) jr (h:=?_);refine eD (aj ai (.slice a dY.length dY.length) (oD k t (⟨(cn:Int),(i:Int),dY⟩,true)).values) (λw hw=>by rw[Dj,if_neg t1,if_pos ⟨t3,rfl⟩];exact hw (aj ai (.slice a dY.length dY.length) dY.reverse) s7) ?_;refine go ?_;intro b64;refine go ?_;refine kY (xs:=z) aY (oD k t (⟨(cn:Int),(i:Int),dY⟩,true)) (.slice a dY.length dY.length) s6 (hp:=AD) (next:=λad=>?_);refine go ?_;refine uC (λv:ah=>[pt b8 (.cells [v]),ap aY v (z++[oD k t (⟨(cn:Int),(i:Int),dY⟩,true)])]) _ (h:=?_);exact sV () rfl trivial trivial
   |false=>
    refine mD (A:=ap ai (.slice a dY.length dY.length) dY) (fs:=[aj ai (.slice a dY.length dY.length) dY]) jr (h:=?_);refine eD (aj ai (.slice a dY.length dY.length) (oD k t (⟨(cn:Int),(i:Int),dY⟩,false)).values) (λw hw=>by rw[Dj,if_neg t1,if_neg s7];exact hw (aj ai (.slice a dY.length dY.length) dY) s7) ?_;refine go ?_;intro b64;refine go ?_;refine kY (xs:=z) aY (oD k t (⟨(cn:Int),(i:Int),dY⟩,false)) (.slice a dY.length dY.length) s6 (hp:=AD) (next:=λad=>?_);refine go ?_;refine uC (λv:ah=>[pt b8 (.cells [v]),ap aY v (z++[oD k t (⟨(cn:Int),(i:Int),dY⟩,false)])]) _ (h:=?_);exact fg
  .refine mD (A:=ap ai (.slice a dY.length dY.length) dY) (fs:=[aj ai (.slice a dY.length dY.length) dY]) jr (h:=?_);refine eD (aj ai (.slice a dY.length dY.length) (oD k t (⟨(cn:Int),(i:Int),dY⟩,bb)).values) (λw hw=>by rw[Dj,if_neg t1,if_neg (λq=>t3 (by have:=q.1;omega))];exact hw (aj ai (.slice a dY.length dY.length) dY) s7) ?_;refine go ?_;intro b64;refine go ?_;refine kY (xs:=z) aY (oD k t (⟨(cn:Int),(i:Int),dY⟩,bb)) (.slice a dY.length dY.length) s6 (hp:=AD) (next:=λad=>?_);refine go ?_;refine uC (λv:ah=>[pt b8 (.cells [v]),ap aY v (z++[oD k t (⟨(cn:Int),(i:Int),dY⟩,bb)])]) _ (h:=?_);exact fg
 .intro r xs hX;rw[acA,hX];dsimp only[List.cons_append,List.nil_append];have hmap:(p.map (iF k s)).map (oD k t)=p.map (fw k s t):=by
   rw[rG];exact sD λg _=>aoM k s t g
  rw[hmap];refine zw (h:=λv=>?_);refine go ?_;refine mD (A:=ap aY v (p.map (fw k s t))) (fs:=[aj aY v (p.map (fw k s t))]) jr (h:=?_);refine iy (anA (v:=v) (xs:=p.map (fw k s t)) tU (λx hx=>by
   obtain⟨g,hg,rfl⟩:=bS.1 hx;have:=ou.NW (Ou hK hk (hQ.right g hg));omega)) (next:=λy hy=>?_)
  obtain⟨v2,ys⟩:=y;dsimp only[List.cons_append,List.nil_append]at hy⊢;refine go ?_;refine vU (c:=(0:Int)=0) (f:=aj aY v2 ys) s7 ?_;exact yB ⟨v2,ys,0⟩ (hv:=rfl) (hp:=⟨⟨λh=>absurd hK h,λ_ h=>absurd hk h,λ_ _ h=>absurd hQ h,λ_ _ _=>rfl⟩,λ_=>hy,λh=>absurd rfl h⟩)
