/- Part. -/
import Derived.Test.YtgimfpcgbmpkhaaGreatLibMT
set_option linter.all false
set_option maxRecDepth 10000
set_option maxHeartbeats 4000000
namespace Go.Proofs.YtgimfpcgbmpkhaaGreat
open Tryz (prog)
open Go.Ideal Kd Canon
structure aqV(k:aT)(s t grid:List Int)(e:Int):Prop where
 nk:¬bD k->e=180
 ns:bD k->¬eU k s t->e=230
 nf:bD k->eU k s t->¬lg k grid->e=200
 ok:bD k->eU k s t->lg k grid->e=0
variable{k:aT}{s t grid:ae Int}
def lg.nX(hk:eU k s t)(hF:lg k grid):jm k.grid.cells.length k.decl.symbols.length s t grid (jQ s t grid):=by
 obtain⟨h1,h2⟩:=hF;exact ap7 hk.pc hk.ps s6 λx hx=>by have:=h2 x hx;omega
variable{vh vs vr vc vu gh gc vn vl sc st:ah}
def Iu{vg:ah}(hS:nU k)(hs:s.length<2^63)(ht:t.length<2^63)(hl:grid.length<2^63):
 aY prog (.func 20) [.agg ⟨jE k vh vs vr vc vu gh gc vn vl⟩,.agg ⟨[sc,st]⟩,vg] [] [] (ay aj vg grid::ay aj sc s::ay aj st t::iO k vh vs vr vc vu gh gc vn vl []) H8 (λ_=>[])
  (λy=>[lc (y.e=0) (ay aj y.v (jQ s t grid))]) (λy=>aqV k s t grid y.e/\(y.e≠0->y.v=.slice none 0 0)):=by
 refine gB 20 λB w0=>?_;dsimp only[iO];refine gF aj sc s λV7 V8 esc=>?_;subst esc;refine gF aj st t λWl cst est=>?_;subst est;refine gF aj vg grid λag cg eg=>?_;subst eg;refine go ?_;intro b3 b4;refine gP b4 ?_;refine gC (adH (k:=k) (s:=s) (t:=t) hS hs ht) λe he=>?_;refine aK (λhne=>?_) (λhz=>?_)
 .refine go ?_;refine tZ (c:=e=0) (f:=ay aj (.slice none 0 0) (jQ s t grid)) hne ?_;exact gQ ⟨.slice none 0 0,e⟩ ⟨⟨he.nk,he.ns,λa b _=>absurd (he.ok a b) hne,λa b _=>absurd (he.ok a b) hne⟩,λ_=>rfl⟩
 have hz:e=0:=j6.1 hz;subst hz;have hK:bD k:=Classical.byContradiction λh=>by have:=he.nk h;omega
 have hk:eU k s t:=Classical.byContradiction λh=>by have:=he.ns hK h;omega
 refine gC (acP (k:=k) (grid:=grid) hS hl) λe he=>?_;refine aK (λhne=>?_) (λhz=>?_)
 .refine go ?_;refine tZ (c:=e=0) (f:=ay aj (.slice none 0 0) (jQ s t grid)) hne ?_;exact gQ ⟨.slice none 0 0,e⟩ ⟨⟨λh=>absurd hK h,λ_ h=>absurd hk h,λa _ b=>he.2.1 a b,λa _ b=>absurd (he.2.2 a b) hne⟩,λ_=>rfl⟩
 have hz:e=0:=j6.1 hz;subst hz;have hF:lg k grid:=Classical.byContradiction λh=>by have:=he.2.1 hK h;omega
 clear he;have hG:=lg.nX hk hF;have hgl:=hG.len;have hsl:=hk.pc.len;have htl:=hk.ps.len;have hn:=hK.tT;refine go ?_;refine qA grid.length ⟨s6,s6,s6⟩ λbm=>?_;rw[Dq];refine go ?_;refine dL (λy:Nat×ae Int=>grid.length - y.1) (λy=>[(27,iV (y.1:Int))]) (λy=>[pt bm (.cells (y.2.map iV))]) (λ_=>[]) (λy=>y.1<=grid.length/\y.2.length=grid.length/\∀c:Int,0<=c->c<(y.1:Int)->aU y.2 (aU s c)=aU t (aU grid c)) (0,iP [] grid.length) ⟨bI _,yP (bI _),λc c0 c1=>by have c1:c<(0:Nat):=c1;omega⟩ (hk:=tc) (body:=?_);rintro⟨j,ys⟩ ⟨hj,hyl,hy⟩;dsimp only at hj hyl hy⊢;refine aK ?_ ?_<;>intro h1
 .refine go ?_;intro _ _ x hx;have nA:=hG.jB x (aV hx);have hxg:=jF hx;obtain⟨xn,rfl⟩:=dW nA.1;refine go ?_;intro _ _ d hd;have hdr:=hk.pc.dJ d (aV hd);have hdg:=jF hd;obtain⟨dn,rfl⟩:=dW hdr.1;refine go ?_;intro _ _ z hz;have hzg:=jF hz;refine go ?_;refine jN (b:=bm) (o:=0+dn*1) (cs:=ys.map iV) (v:=iV z) (cs':=(ys.set dn z).map iV) (by rw[gq,lU,qo]) vj ?_;refine go ?_;refine aW (j+1,ys.set dn z) (by show grid.length - (j+1)<grid.length - j;omega) ⟨by dsimp only;omega,by rw[lu];exact hyl,λc c0 c1=>?_⟩;dsimp only at c1⊢;have hsr:=hk.pc.at_ c0 s6;have hset:=Px (l:=ys) (s:=(dn:Int)) (x:=z) (u:=aU s c) s6 s6 hsr.1;rw[fI]at hset;rw[hset];by_cases e:c=(j:Int)
  .subst e;rw[hdg,if_pos rfl,hxg,hzg]
  .rw[if_neg (λq=>e (hk.pc.inj c0 s6 s6 s6 (q.trans hdg.symm)))];exact hy c c0 s6
 have iH:j=grid.length:=s6
 subst iH;have hfin:ys=jQ s t grid:=by
  have:jm k.grid.cells.length k.decl.symbols.length s t grid ys:=⟨hk.pc,hk.ps,hgl,s6,hG.jB,λc c0 c1=>hy c c0 s6⟩
  exact this.uniq hG
 subst hfin;refine mI (A:=pt bm (.cells ((jQ s t grid).map iV))) (fs:=[ay aj (.slice (some ⟨bm,0,some 0⟩) grid.length grid.length) (jQ s t grid)]) (by have:=uJ (b:=bm) (f:=0) (c:=grid.length) (xs:=jQ s t grid) (hc:=by rw[hyl];exact bG _);rw[hyl]at this;exact this) (h:=?_);refine go ?_;refine uY (c:=(0:Int)=0) (f:=ay aj (.slice (some ⟨bm,0,some 0⟩) grid.length grid.length) (jQ s t grid)) s7 ?_;exact gQ ⟨.slice (some ⟨bm,0,some 0⟩) grid.length grid.length,0⟩ ⟨⟨λh=>absurd hK h,λ_ h=>absurd hk h,λ_ _ h=>absurd hF h,λ_ _ _=>rfl⟩,λh=>absurd rfl h⟩
def iM(k:aT)(s:ae Int)(g:Clue):Clue×Bool:=
 match k.decl.bT[g.aN.toNat]? with
 |none=>(g,false)
 |some c=>(⟨g.aN,jc (k.lists.getD c.family.toNat []) s c.family g.at_,g.values⟩,iI s ((k.lists.getD c.family.toNat []).getD g.at_.toNat []) ((k.lists.getD c.family.toNat []).getD (jc (k.lists.getD c.family.toNat []) s c.family g.at_).toNat []))
def oH(k:aT)(t:ae Int)(x:Clue×Bool):Clue:=
 match k.decl.bT[x.1.aN.toNat]? with
 |none=>x.1
 |some c=>⟨x.1.aN,x.1.at_,if c.type=1 then img t x.1.values else if c.type=3/\x.2=true then x.1.values.reverse else x.1.values⟩
def aqX(k:aT)(s t:ae Int)(g:Clue):oH k t (iM k s g)=gK k s t g:=by
 unfold iM gK;cases h:k.decl.bT[g.aN.toNat]? with
 |none=>
  dsimp only;unfold oH;rw[h]
 |some c=>
  dsimp only;unfold oH;dsimp only;rw[h];rfl
def Ik.iM{g:Clue}{c:jA}{L:ae (ae Int)}{j i:Nat}{l l':ae Int}(G:Ik k s t g c L j i l l'):iM k s g=(⟨g.aN,(i:Int),g.values⟩,iI s l l'):=by
 have hw:=G.goes.jc G.fM;unfold Go.Proofs.YtgimfpcgbmpkhaaGreat.iM;rw[G.hc];dsimp only;rw[fK G.hL,G.at_,hw,fI,fI,fK G.hl,fK G.hl']
abbrev CE:=(Clue×ah)×Bool
def mU(x:CE):Clue×Bool:=(x.1.1,x.2)
def Iw(x:CE):ae ah:=[tK x.1.1 x.1.2,.bool x.2]
def Fh(x:CE):ae aI:=[ay aj x.1.2 x.1.1.values]
def oI(l:ae (Clue×Bool)):ae CE:=l.map λy=>((y.1,.nilFunc),y.2)
def Qm(l:ae (Clue×Bool)):(oI l).map mU=l:=by
 unfold oI;rw[rO];have:mU∘(λy:Clue×Bool=>(((y.1,Value.nilFunc),y.2):CE))=id:=rfl;rw[this,BV]
def aqY{vp:ah}:
 aY prog (.func 65) [.agg ⟨jE k vh vs vr vc vu gh gc vn vl⟩,.agg ⟨[sc,st]⟩,.agg ⟨[vp]⟩] [] [] [] (λy:Nat×Nat×Nat=>.func (.func 173) #[] #[ptr' y.1,ptr' y.2.1,ptr' y.2.2]) (λ_=>[])
  (λy=>[aX y.1 0 [vp],aX y.2.1 0 (jE k vh vs vr vc vu gh gc vn vl),aX y.2.2 0 [sc,st]]) (λ_=>True):=by
 refine gB 65 λB w0=>?_;refine go ?_;intro b3 b4 b5;refine go ?_;refine gP b3 ?_;refine gP b4 ?_;refine gP b5 ?_;exact gQ (b5,b3,b4) trivial
def aqZ{b:Nat}{vw:ah}{w:ae Int}(hw:w.length<=1000000)(x:ae Int)(hx:x.length<=1000000):Dk prog (.func 176) [] [ptr' b] [aX b 0 [vw],ay aj vw (bW w)] (λx=>kY x w) x:=by
 have h1:=AX x;intro v;rw[bP];refine gB 176 λB w0=>?_;refine gC (acC (v:=v) (xs:=x)) λb1 _=>?_;refine gC (U8 (acD (b:=b1) (v:=v) (xs:=x) s6) (λys h=>by rw[h];exact hx)) λy hy=>?_;obtain⟨v2,EX⟩:=y;have hy:EX=x:=hy;subst hy;dsimp only[List.cons_append,List.nil_append];refine mI (A:=ap aj v2 (bW EX)) (fs:=[ay aj v2 (bW EX)]) ja (h:=?_);refine gC (wC (xs:=bW EX) (ys:=bW w) s6) λ_ _=>?_;exact dH
end Go.Proofs.YtgimfpcgbmpkhaaGreat
namespace Go.Proofs.YtgimfpcgbmpkhaaGreat
open Tryz (prog)
open Go.Ideal Kd Canon
variable{k:aT}{t s:ae Int}{p:ae Clue}{vh vs vr vc vu gh gc vn vl sc st vp:ah}
def aq0{bk bs bp:Nat}(hK:bD k)(hk:eU k s t)(hQ:fE k p):
 GQ prog Iw Fh (.func 173) [] [ptr' bp,ptr' bk,ptr' bs] [aX bp 0 [vp],aX bk 0 (jE k vh vs vr vc vu gh gc vn vl),aX bs 0 [sc,st],ay bU vp p,ay aj sc s,ay eP vc k.decl.bT,ay (aA (aA aj)) vl k.lists] (λxs=>xs.map mU=p.map (iM k s)):=by
 intro S inv ok step s0 oM y1 y2 F' h0 hok hy;rw[bQ,bQ,bQ,bQ,bQ,bQ,bQ,bP];have hpl:=hQ.len;have hsl:=hk.pc.len;have hn:=hK.tT;have Lr:∀r∈k.decl.regions,uT (bO k.decl) r.lists:=λr hr=>(hK.typ.wH r hr).1.2;have Ls:=KG hK.bJ Lr;have hlin:=O8 hK.bJ Lr;rw[<- hK.lists]at Ls hlin;refine gB 173 λB w0=>?_;refine gF bU vp p λap1 cp ep=>?_;subst ep;refine gF aj sc s λV7 V8 esc=>?_;subst esc;refine go ?_;refine dL (λy:Nat×ae CE×S=>p.length - y.1) (λy=>[(17,iV (y.1:Int))]) (λy=>inv y.2.2) (λ_=>[]) (λy=>y.1<=p.length/\ok y.2.1 y.2.2/\y.2.1.map mU=(p.take y.1).map (iM k s)/\∀rest,cz step s0 (y.2.1++rest)=cz step y.2.2 rest) (0,[],s0) ⟨bI _,h0,rfl,λ_=>rfl⟩ (body:=?_);rintro⟨jj,bS,dN⟩ ⟨hj,hos,iW,hrun⟩;dsimp only at hj hos iW hrun⊢;refine aK ?_ ?_<;>intro h1
 rotate_left
 .have iH:jj=p.length:=by omega
  subst iH;rw[dK]at iW;exact eR
 refine gX bU (xs:=p) λ_ _ g (vg:ah) hg=>?_;have hgm:=aV hg;obtain⟨c,L,j,i,l,l',G⟩:=xL hK hk (hQ.right g hgm);obtain⟨Lt,Qn,ed⟩:=g;have hcl:0<=Lt:=G.aN;have aq1:Qn=(j:Int):=G.at_;obtain⟨cn,rfl⟩:=dW hcl;subst aq1
 have hcc:k.decl.bT[cn]? =some c:=by have:=G.hc;dsimp only at this;rwa [fI]at this
 have aq2:=(bz.1 hcc).1;have Dn:=hK.fM c (aV hcc);obtain⟨fn,hfn⟩:=dW Dn.1;have Lu:=G.hL;rw[hfn,fI]at Lu;have Dt:=aV Lu;have avq:=Ls L Dt;have yD:∀x∈L,x.length<=4096:=λx hx=>(hlin L Dt x hx).1;have hlr:=G.fM.dJ l (aV G.hl);have hlen:=yD l (aV G.hl);have hil:(img s l).length=l.length:=Hq s l;have nC:=G.goes.jc G.fM;have hjl:=(bz.1 G.hl).1;have avr:=(bz.1 G.hl').1;refine go ?_;intro b6;refine gX eP (xs:=k.decl.bT) (k:=cn) λ_ _ c2 (_:Unit) hc2=>?_;rw[hcc]at hc2;obtain rfl:c=c2:=Option.some.inj hc2;refine go ?_;rw[hfn];refine gX (aA (aA aj)) (xs:=k.lists) (k:=fn) λ_ _ L2 (vL:ah) hL2=>?_;rw[Lu]at hL2;obtain rfl:L=L2:=Option.some.inj hL2;refine gF (aA aj) vL L λaL cL eL=>?_;subst eL;refine gX (aA aj) (xs:=L) (k:=j) λ_ _ l2 (wI:ah) hl2=>?_;rw[G.hl]at hl2;obtain rfl:l=l2:=Option.some.inj hl2;refine gF aj wI l λal cl el=>?_;subst el;refine go ?_;refine kv aj ?_;refine dL (λy:Nat×ah=>l.length - y.1) (λy=>[(40,iV (y.1:Int)),(9,y.2)]) (λy=>ap aj y.2 (img s (l.take y.1))::pt b6 (.cells [iV (cn:Int),iV (j:Int),vg])::inv dN) (λ_=>[]) (λy=>y.1<=l.length) (0,.slice none 0 0) (bI _) (hk:=by repeat (first|exact aJ.all _|exact aJ.nil|(apply aJ.cons;(focus (repeat (first|exact aD.here|apply aD.there)))))) (body:=?_);rintro⟨q,v9⟩ hq;dsimp only at hq⊢;have hql:(img s (l.take q)).length=q:=by rw[Hq,gW];omega
 refine aK ?_ ?_<;>intro h2
 .refine go ?_;intro _ _ x hx;have nA:=hlr x (aV hx);obtain⟨xn,rfl⟩:=dW nA.1;refine go ?_;intro _ _ z hz;have hzg:=jF hz;have htk:img s (l.take (q+1))=img s (l.take q)++[z]:=by
   unfold img;rw[fq hx,bZ,kg,hzg]
  refine go ?_;intro b50;refine go ?_;refine jy (xs:=img s (l.take q)) aj z () s6 (next:=λad=>?_);rw[<- htk];refine go ?_;exact aW (q+1,.slice ad ((img s (l.take q)).length+1) ((img s (l.take q)).length+1)) (by show l.length - (q+1)<l.length - q;omega) (by show q+1<=_;omega)
 have hqe:q=l.length:=s6
 subst hqe;rw[dK]at hql⊢;refine EW (E:=aj) (v:=v9) (xs:=img s l) λa9 hv=>?_;subst hv;refine gH ?_ ?_<;>intro c0
 rotate_left
 .have hcf:c.family=0:=by omega
  exact be
 refine gH ?_ ?_<;>intro c4
 rotate_left
 .have hcf:c.family=4:=by omega
  exact be
 refine aK ?_ ?_<;>intro c5
 .have hcf:c.family=5:=by omega
  exact be
 refine gC (apP (a:=a9) (n:=(img s l).length) (c:=(img s l).length)) λb1 _=>?_;refine gC (apT (A:=ap aj (.slice a9 (img s l).length (img s l).length) (img s l)) (apQ (b:=b1) (a:=a9) (xs:=img s l) s6) (λys h=>by rw[h];omega)) λy hy2=>?_;obtain⟨v2,EX⟩:=y;have hy2:EX=img s l:=hy2;subst hy2;dsimp only[List.cons_append,List.nil_append];refine mI (A:=ap aj v2 (bW (img s l))) (fs:=[ay aj v2 (bW (img s l))]) ja (h:=?_);refine gF aj v2 (bW (img s l)) λa12 c12 e12=>?_;subst e12;refine go ?_;intro b12;refine go ?_;refine gP b12 ?_;refine gC (ac7 (fn:=.func 176) (first:=[]) (cap:=[ptr' b12]) (F1:=[aX b12 0 [.slice a12 (bW (img s l)).length c12],ay aj (.slice a12 (bW (img s l)).length c12) (bW (img s l))]) (p:=λx=>kY x (img s l)) (va:=.slice aL L.length cL) (xs:=L) s6 (λx hx=>aqZ s6 x (by have:=yD x hx;omega))) λ_ _=>?_;rw[show sF (λx=>kY x (img s l)) L=(i:Int)by
  have h3:=nC;unfold jc at h3;rw[if_neg (by
   unfold lM;have a0:c.family≠0:=s6
   have a4:c.family≠4:=s6
   have a5:c.family≠5:=s6
   simp[a0,a4,a5]),fI,fK G.hl]at h3
  exact h3]
 refine go ?_;refine gX (aA aj) (xs:=L) (k:=i) λ_ _ l2 (wI:ah) hl2=>?_;rw[G.hl']at hl2;obtain rfl:l'=l2:=Option.some.inj hl2;refine gC (Dp (a:=a9) (xs:=img s l) (ys:=l') B7) λ_ _=>?_;refine gC (Ij (a:=a9) (xs:=img s l) B7) λ_ _=>?_;generalize hxd:(((⟨(cn:Int),(i:Int),ed⟩,vg),iI s l l'):CE)=x;have hnx:(p.take (jj+1)).map (iM k s)=(p.take jj).map (iM k s)++[mU x]:=by
  rw[fq hg,bZ,kg,<- hxd,G.iM];rfl
 have hX:(bS++x::oI ((p.drop (jj+1)).map (iM k s))).map mU=p.map (iM k s):=by
  rw[bZ,iX,Qm,iW];conv=>rhs;rw[<- l5 (jj+1) p,bZ,hnx,fo]
  rfl
 have fQ:=hy _ dN _ _ hos hX;rw[show Iw x=[tK ⟨(cn:Int),(i:Int),ed⟩ vg,.bool (iI s l l')]by rw[<- hxd];rfl,show Fh x=[ay aj vg ed]by rw[<- hxd];rfl]at fQ;rw[bQ,bP]at fQ;have hrl:(img s l).reverse.length=(img s l).length:=FP;by_cases e0:img s l=l'
 .rw[eB e0];have htb:iI s l l'=false:=by unfold iI;simp[e0]
  rw[htb]at fQ;refine gC fQ λ_ _=>?_;cases hst:(step dN x).2 with
  |true=>
   exact cw
  |false=>
   exact cH
 .rw[dA e0];have htb:iI s l l'=decide ((img s l).reverse=l'):=by unfold iI;simp[e0]
  rw[htb]at fQ;refine gX (aA aj) (xs:=L) (k:=i) λ_ _ l3 (Lb:ah) hl3=>?_;rw[G.hl']at hl3;obtain rfl:l'=l3:=Option.some.inj hl3;refine go ?_;rw[<- hrl];refine fH (Dp (a:=a9) (xs:=(img s l).reverse) (ys:=l') (by rw[hrl,hil];omega)) (next:=λ_ _=>?_);refine gC fQ λ_ _=>?_;cases hst:(step dN x).2 with
  |true=>
   exact cw
  |false=>
   exact cH
structure aq5(k:aT)(s t:List Int)(p:List Clue)(e:Int):Prop where
 nk:¬bD k->e=180
 ns:bD k->¬eU k s t->e=230
 np:bD k->eU k s t->¬fE k p->e=190
 ok:bD k->eU k s t->fE k p->e=0
structure aq6 where
 v:Value
 x:List Clue
 e:Int
def adJ(k:aT)(t:ae Int):∀(xs:ae CE) (z:ae Clue),gM (λ(z:ae Clue) (x:CE)=>(z++[oH k t (mU x)],Out.normal)) z xs=(z++(xs.map mU).map (oH k t),Out.normal)
 |[],z=>by simp[gM]
 |x::xs,z=>by
  rw[gM];dsimp only;rw[adJ k t xs,iX,iX,fo];rfl
def aq7{cl at_:Int}{vs:ae Int}{b:Bool}{c:jA}(h:k.decl.bT[cl.toNat]? =some c):oH k t (⟨cl,at_,vs⟩,b)=⟨cl,at_,if c.type=1 then img t vs else if c.type=3/\b=true then vs.reverse else vs⟩:=by
 unfold oH;dsimp only;rw[h]
def mO.PG{g:Clue}(h:mO k g):g.values.length<=8:=by
 obtain⟨c',L',a1,a2,a3,a4,a5,a6⟩:=h;rcases a6 with⟨a,b,_⟩|⟨a,b,_⟩|⟨a,_,b,_⟩<;>omega
set_option maxRecDepth 100000 in
def Iy(hS:nU k)(hP:uf p)(hs:s.length<2^63)(ht:t.length<2^63):
 aY prog (.func 21) [.agg ⟨jE k vh vs vr vc vu gh gc vn vl⟩,.agg ⟨[sc,st]⟩,.agg ⟨[vp]⟩] [] [] (ay bU vp p::ay aj sc s::ay aj st t::iO k vh vs vr vc vu gh gc vn vl []) (λy:aq6=>.tuple ⟨[.agg ⟨[y.v]⟩,iV y.e]⟩) (λ_=>[])
  (λy=>[lc (y.e=0) (ay bU y.v y.x)]) (λy=>aq5 k s t p y.e/\(y.e=0->jG (p.map (gK k s t)) y.x)/\(y.e≠0->y.v=.slice none 0 0)):=by
 refine zD _ (pY 21) λB w0=>?_;dsimp only[iO];refine gF aj st t λWl cst est=>?_;subst est;refine go ?_;intro b3 b4 b5 b6;refine gP b3 ?_;refine gP b4 ?_;refine gP b5 ?_;refine gC (adH (k:=k) (s:=s) (t:=t) hS hs ht) λe he=>?_;refine aK (λhne=>?_) (λhz=>?_)
 .refine go ?_;refine tZ (c:=e=0) (f:=ay bU (.slice none 0 0) ([]:ae Clue)) hne ?_;exact uO ⟨.slice none 0 0,[],e⟩ (hv:=rfl) (hp:=⟨⟨he.nk,he.ns,λa b _=>absurd (he.ok a b) hne,λa b _=>absurd (he.ok a b) hne⟩,λh=>absurd h hne,λ_=>rfl⟩)
 have hz:e=0:=j6.1 hz;subst hz;have hK:bD k:=Classical.byContradiction λh=>by have:=he.nk h;omega
 have hk:eU k s t:=Classical.byContradiction λh=>by have:=he.ns hK h;omega
 clear he;refine gC (VB (k:=k) (p:=p) hS hP) λe he=>?_;refine aK (λhne=>?_) (λhz=>?_)
 .refine go ?_;refine tZ (c:=e=0) (f:=ay bU (.slice none 0 0) ([]:ae Clue)) hne ?_;exact uO ⟨.slice none 0 0,[],e⟩ (hv:=rfl) (hp:=⟨⟨λh=>absurd hK h,λ_ h=>absurd hk h,λa _ b=>he.2.1 a b,λa _ b=>absurd (he.2.2 a b) hne⟩,λh=>absurd h hne,λ_=>rfl⟩)
 have hz:e=0:=j6.1 hz;subst hz;have hQ:fE k p:=Classical.byContradiction λh=>by have:=he.2.1 hK h;omega
 clear he;have hpl:=hQ.len;have htl:=hk.ps.len;have hm:=hK.typ.lim.s1;refine go ?_;intro b8;refine gC (aqY (k:=k) (sc:=sc) (st:=.slice Wl t.length cst) (vp:=vp)) λyl _=>?_;refine go ?_;refine kv bU ?_;refine oz (λv:ah=>[pt b8 (.cells [v]),ap bU v ([]:ae Clue)]) (.slice none 0 0) (h:=?_);refine Ki (Z:=Nat) (λ(z:ae Clue) (x:CE)=>(z++[oH k t (mU x)],Out.normal)) (λz=>[Ez λv:ah=>[pt b8 (.cells [v]),ap bU v z]]) (λvs z=>z=(vs.map mU).map (oH k t)) [] _ (λx z=>[pt z (.cells [iV x.1.1.aN,iV x.1.1.at_,x.1.2])]) rfl (λvs z x rest hz _ _=>by rw[hz,bZ,bZ];rfl)
  (aq0 (bk:=yl.2.1) (bs:=yl.2.2) (bp:=yl.1) (k:=k) (s:=s) (t:=t) (p:=p) (sc:=sc) (st:=.slice Wl t.length cst) (vp:=vp) hK hk hQ)
  (by intro z x lo o B w0;dsimp only[Iw,Fh,List.cons_append,List.nil_append,List.zip_cons_cons,List.zip_nil_left,List.reverse_cons,List.reverse_nil];refine go ?_;intro b9;refine go ?_;exact zI b9 rfl) ?_ ?_ (λ_ _=>trivial)
 .rintro bS z ⟨⟨⟨Lt,Qn,ed⟩,wv⟩,bb⟩ rest b9 lo LL B w0 hz hX;have hxm:(⟨Lt,Qn,ed⟩,bb)∈p.map (iM k s):=by rw[<- hX];exact cO.2 ⟨((⟨Lt,Qn,ed⟩,wv),bb),s7,rfl⟩
  obtain⟨g,hgm,hge⟩:=cO.1 hxm;obtain⟨c,L,j,i,l,l',G⟩:=xL hK hk (hQ.right g hgm);have hgR:=hQ.right g hgm;rw[G.iM]at hge;injection hge with hge hbe;injection hge with e1 e2 e3;have hcl0:0<=Lt:=by rw[<- e1];exact G.aN
  obtain⟨cn,rfl⟩:=dW hcl0;have hcc:k.decl.bT[cn]? =some c:=by have:=G.hc;rwa [e1,fI]at this
  have aq2:=(bz.1 hcc).1;subst e2;have hgv:ed.length<=8/\(c.type=1->ed.length=1):=by
   obtain⟨c',L',a1,a2,a3,a4,a5,a6⟩:=hgR;rw[G.hc]at a2;cases a2;rw[e3]at a6;rcases a6 with⟨a,b,_⟩|⟨a,b,_⟩|⟨a,_,b,_⟩
   .exact⟨s6,λ_=>b⟩
   .exact⟨s6,λh=>by omega⟩
   .exact⟨b,λh=>absurd h a⟩
  have hgr:c.type=1->∀x∈ed,0<=x/\x<(k.decl.symbols.length:Int):=by rw[<- e3];exact G.vals hgR
  have Du:=aq7 (k:=k) (t:=t) (cl:=(cn:Int)) (at_:=(i:Int)) (vs:=ed) (b:=bb) (c:=c) (by rw[fI];exact hcc)
  have hzl:z.length<=512:=by
   have h2:=congrArg List.length hX;rw[bi,fu,bi]at h2;rw[hz,bi,bi];omega
  dsimp only[Fh,mU,List.cons_append,List.nil_append,List.reverse_cons,List.reverse_nil];refine rW (h:=λv=>?_);refine gC (VM (v:=wv) (xs:=ed) s6) λa _=>?_;refine gX eP (xs:=k.decl.bT) (k:=cn) λ_ _ c2 (_:Unit) hc2=>?_;rw[hcc]at hc2;obtain rfl:c=c2:=Option.some.inj hc2;refine aK ?_ ?_<;>intro t1
  .obtain⟨v0,rfl⟩:∃v0,ed=[v0]:=by
    match ed,hgv.2 t1 with
    |[v0],_=>exact⟨v0,rfl⟩
   have hv0:=hgr t1 v0 (bR.2 rfl);obtain⟨Aa,rfl⟩:=dW hv0.1;refine akR (v:=.slice a [(Aa:Int)].length [(Aa:Int)].length) (xs:=[(Aa:Int)]) s7 λbb2 f pre hf ev=>?_;obtain rfl:a=some ⟨bb2,pre.length,some f⟩:=by injection ev
   refine go ?_;refine oN (b:=bb2) (o:=pre.length+0*1) (cs:=pre++[(Aa:Int)].map iV) (iV (Aa:Int)) (TH (k:=0) rfl) ?_;refine go ?_;intro _ _ zt hzt;have aq9:=jF hzt;refine go ?_;refine jN (b:=bb2) (o:=pre.length+0*1) (cs:=pre++[(Aa:Int)].map iV) (v:=iV zt) (cs':=pre++[zt].map iV) (TI (k:=0)) s7 ?_;refine akS (b:=bb2) (f:=f) (m:=1) (pre:=pre) (xs:=[zt]) rfl hf ?_;refine mI (A:=ap aj (.slice (some ⟨bb2,pre.length,some f⟩) 1 1) [zt]) (fs:=[ay aj (.slice (some ⟨bb2,pre.length,some f⟩) 1 1) [zt]]) ja (h:=?_);refine fA (ay aj (.slice (some ⟨bb2,pre.length,some f⟩) 1 1) (oH k t (⟨(cn:Int),(i:Int),[(Aa:Int)]⟩,bb)).values) (λw hw=>by rw[Du,if_pos t1];show(ay aj _ [aU t (Aa:Int)]).p w;rw[aq9];exact hw (ay aj (.slice (some ⟨bb2,pre.length,some f⟩) 1 1) [zt]) s7) ?_;refine go ?_;intro b64;refine go ?_;refine jy (xs:=z) bU (oH k t (⟨(cn:Int),(i:Int),[(Aa:Int)]⟩,bb)) (.slice (some ⟨bb2,pre.length,some f⟩) 1 1) s6 (hp:=zp) (next:=λad=>?_);refine go ?_;refine oz (λv:ah=>[pt b8 (.cells [v]),ap bU v (z++[oH k t (⟨(cn:Int),(i:Int),[(Aa:Int)]⟩,bb)])]) _ (h:=?_);exact dy
  refine aK ?_ ?_<;>intro t3
  .refine go ?_;cases bb with
   |true=>
    refine gC (Ij (a:=a) (xs:=ed) s6) λ_ _=>?_;refine mI (A:=ap aj (.slice a ed.length ed.length) ed.reverse) (fs:=[ay aj (.slice a ed.length ed.length) ed.reverse]) ja (h:=?_);refine fA (ay aj (.slice a ed.length ed.length) (oH k t (⟨(cn:Int),(i:Int),ed⟩,true)).values) (λw hw=>by rw[Du,if_neg t1,if_pos ⟨t3,rfl⟩];exact hw (ay aj (.slice a ed.length ed.length) ed.reverse) s7) ?_;refine go ?_;intro b64;refine go ?_;refine jy (xs:=z) bU (oH k t (⟨(cn:Int),(i:Int),ed⟩,true)) (.slice a ed.length ed.length) s6 (hp:=zp) (next:=λad=>?_);refine go ?_;refine oz (λv:ah=>[pt b8 (.cells [v]),ap bU v (z++[oH k t (⟨(cn:Int),(i:Int),ed⟩,true)])]) _ (h:=?_);exact pE () rfl trivial trivial
   |false=>
    refine mI (A:=ap aj (.slice a ed.length ed.length) ed) (fs:=[ay aj (.slice a ed.length ed.length) ed]) ja (h:=?_);refine fA (ay aj (.slice a ed.length ed.length) (oH k t (⟨(cn:Int),(i:Int),ed⟩,false)).values) (λw hw=>by rw[Du,if_neg t1,if_neg s7];exact hw (ay aj (.slice a ed.length ed.length) ed) s7) ?_;refine go ?_;intro b64;refine go ?_;refine jy (xs:=z) bU (oH k t (⟨(cn:Int),(i:Int),ed⟩,false)) (.slice a ed.length ed.length) s6 (hp:=zp) (next:=λad=>?_);refine go ?_;refine oz (λv:ah=>[pt b8 (.cells [v]),ap bU v (z++[oH k t (⟨(cn:Int),(i:Int),ed⟩,false)])]) _ (h:=?_);exact dy
  .refine mI (A:=ap aj (.slice a ed.length ed.length) ed) (fs:=[ay aj (.slice a ed.length ed.length) ed]) ja (h:=?_);refine fA (ay aj (.slice a ed.length ed.length) (oH k t (⟨(cn:Int),(i:Int),ed⟩,bb)).values) (λw hw=>by rw[Du,if_neg t1,if_neg (λq=>t3 (by have:=q.1;omega))];exact hw (ay aj (.slice a ed.length ed.length) ed) s7) ?_;refine go ?_;intro b64;refine go ?_;refine jy (xs:=z) bU (oH k t (⟨(cn:Int),(i:Int),ed⟩,bb)) (.slice a ed.length ed.length) s6 (hp:=zp) (next:=λad=>?_);refine go ?_;refine oz (λv:ah=>[pt b8 (.cells [v]),ap bU v (z++[oH k t (⟨(cn:Int),(i:Int),ed⟩,bb)])]) _ (h:=?_);exact dy
 .intro r xs hX;rw[adJ,hX];dsimp only[List.cons_append,List.nil_append];have hmap:(p.map (iM k s)).map (oH k t)=p.map (gK k s t):=by
   rw[rO];exact yZ λg _=>aqX k s t g
  rw[hmap];refine rW (h:=λv=>?_);refine go ?_;refine mI (A:=ap bU v (p.map (gK k s t))) (fs:=[ay bU v (p.map (gK k s t))]) ja (h:=?_);refine fH (apF (v:=v) (xs:=p.map (gK k s t)) vj (λx hx=>by
   obtain⟨g,hg,rfl⟩:=cO.1 hx;have:=mO.PG (Qa hK hk (hQ.right g hg));omega)) (next:=λy hy=>?_)
  obtain⟨v2,ys⟩:=y;dsimp only[List.cons_append,List.nil_append]at hy⊢;refine go ?_;refine uY (c:=(0:Int)=0) (f:=ay bU v2 ys) s7 ?_;exact uO ⟨v2,ys,0⟩ (hv:=rfl) (hp:=⟨⟨λh=>absurd hK h,λ_ h=>absurd hk h,λ_ _ h=>absurd hQ h,λ_ _ _=>rfl⟩,λ_=>hy,λh=>absurd rfl h⟩)
end Go.Proofs.YtgimfpcgbmpkhaaGreat
namespace Go.Proofs.YtgimfpcgbmpkhaaGreat
open Tryz (prog)
open Go.Ideal Kd
abbrev Wm:ae ah:=[.slice none 0 0,.slice none 0 0]
def adK{v:ah}{e:Int}:rX prog (.func 70) [v,iV e] [] [] [] (λy:Bool=>if y=true then .ok v else .iy (sw 230)) (λ_=>[]) (λ_=>[]) (λy=>y=true↔e=0):=by
 refine zH _ (pY 70) λB w0=>?_;refine aK ?_ ?_<;>intro h1
 .refine go ?_;refine ED ?_;refine go ?_;exact CK false (hv:=rfl) (hp:=⟨(λh=>by cases h),λh=>absurd h h1⟩)
 .refine go ?_;exact CJ true (hv:=rfl) (hp:=⟨λ_=>j6.1 h1,λ_=>rfl⟩)
variable{b:Nat}
def ara:GI prog (.func 69) [ptr' b] [] .returning [] [] (λ_:Unit=>.ok (.tuple ⟨[]⟩)) (λ_=>.returning) (λ_=>[]) (λ_=>[]) (λ_=>True):=by
 refine Ol _ (pY 69) λB w0=>?_;refine go ?_;refine Oo (v:=.nilIface) (m':=.returning) rfl ?_;refine go ?_;refine(dx (v:=.bool false) rfl rfl (λh=>by
  exact fh)).h ?_
 exact qT
def arb:GI prog (.func 69) [ptr' b] [] (.panicking (sw 230)) [pt b (.cells [iV 0])] [] (λ_:Unit=>.ok (.tuple ⟨[]⟩)) (λ_=>.panicking [{v:=.iface 39 (iV 230),recovered:=true}])
 (λ_=>[pt b (.cells [iV 230])]) (λ_=>[]) (λ_=>True):=by
 refine Ol _ (pY 69) λB w0=>?_;refine go ?_;refine Oo (v:=.iface 39 (iV 230)) (m':=.panicking [{v:=.iface 39 (iV 230),recovered:=true}]) rfl ?_;refine go ?_;refine(dx (v:=.bool true) rfl rfl (λh=>by
  show(match mD prog .neq 20 (.tmp 4) (.const .nilIface) (.iface 39 (iV 230)) .nilIface with|some v=>some (v,h)|none=>none)=_;rw[show mD prog .neq 20 (.tmp 4) (.const .nilIface) (.iface 39 (iV 230)) .nilIface=some (.bool true)by kernel_rfl])).h ?_
 refine go ?_;exact Ot () (hv:=rfl) (hm:=rfl) (hp:=trivial)
structure Wn where
 ok:Bool
 c:Value
 s:Value
abbrev Lv(y:Wn):ah:=.tuple ⟨[.agg ⟨cond y.ok [y.c,y.s] Wm⟩,iV (cond y.ok 0 230)]⟩
abbrev Dv(x z:ae Int)(y:Wn):ae aI:=cond y.ok [ay aj y.c x,ay aj y.s z] []
section
variable {B:ae Nat} {w0:Wd} {kl Dw k2r:ae OA} {F:ae aI} {l:qr} {b4 b5:Nat} {n i4 i5:Nat} {code:iJ} {x z:ae Int} {pr:Wn->Prop}
def adL(hc:code.results=[.pX 2 i4,.cell1 i5])(hp:pr ⟨false,.nilFunc,.nilFunc⟩)(h2:lk l i4=ptr' b4)(h3:lk l i5=ptr' b5)(hk:aD (pt b5 (.cells [iV 0])) kl Dw)(hk2:aD (pt b4 (.cells Wm)) Dw k2r):
 R (λh=>rV prog code (AU B w0 (λy=>.ok (Lv y)) (λ_=>[]) (Dv x z) pr) (.panic (sw 230)) (act n l [{target:=.fn (.func 69) ⟨[]⟩,args:=⟨[ptr' b5]⟩}] none none) h) B w0 kl F:=by
 refine EE (m:=.panicking (sw 230)) ?_;refine Oq (k1:=[pt b5 (.cells [iV 0])]) (bA:=Dw) (dS:=λ_=>[pt b5 (.cells [iV 230])]++Dw) (F2:=λ_=>F) (arb (b:=b5)) (λy v _ _=>?_) (λy ch _ hc=>by cases hc) (hk:=.cons hk .nil) (hF:=.nil) (hk2:=λ_=>dz.app) (hF2:=λ_=>dz.nil);show RL _ _ _ _ .returning _ _ _ _ _;refine Ou (bA:=[pt b5 (.cells [iV 230])]++Dw) (vs:=[.agg ⟨Wm⟩,iV 230]) ⟨false,.nilFunc,.nilFunc⟩ rfl hp (hr:=?_) (hk:=.nil) (hF:=.nil);rw[hc];exact .pX h2 (.there hk2) rfl (.cell1 h3 .here rfl .nil)
def ard{vc vs:ah}{o:Out}(hc:code.results=[.pX 2 i4,.cell1 i5])(ho:wW o=some .returning)(hp:pr ⟨true,vc,vs⟩)(hF:∀w,(∀f∈F,f.p w)->∀f∈Dv x z ⟨true,vc,vs⟩,f.p w)(h2:lk l i4=ptr' b4)(h3:lk l i5=ptr' b5)(hk:aJ [pt b5 (.cells [iV 0]),pt b4 (.cells [vc,vs])] kl Dw):
 R (λh=>rV prog code (AU B w0 (λy=>.ok (Lv y)) (λ_=>[]) (Dv x z) pr) o (act n l [{target:=.fn (.func 69) ⟨[]⟩,args:=⟨[ptr' b5]⟩}] none none) h) B w0 kl F:=by
 refine EE (m:=.returning) ?_ ho;refine Oq (k1:=[]) (bA:=kl) (dS:=λ_=>kl) (F2:=λ_=>F) (ara (b:=b5)) (λ_ v _ _=>?_) (λ_ ch _ hc=>by cases hc) (hk:=.nil) (hF:=.nil) (hk2:=λ_=>dz.nil) (hF2:=λ_=>dz.nil);show RL _ _ _ _ .returning _ _ _ _ _;intro w s;have s':St B w0 ([pt b5 (.cells [iV 0]),pt b4 (.cells [vc,vs])]++Dw) (Dv x z ⟨true,vc,vs⟩) w:=by
  exact oS
 refine Ou (F:=Dv x z ⟨true,vc,vs⟩) (bA:=[pt b5 (.cells [iV 0]),pt b4 (.cells [vc,vs])]++Dw) (vs:=[.agg ⟨[vc,vs]⟩,iV 0]) ⟨true,vc,vs⟩ rfl hp (hr:=?_) (hk:=.nil) (hF:=?_) w s'
 .rw[hc];exact .pX h2 (.there .here) rfl (.cell1 h3 .here rfl .nil)
 .exact oA
end
def adM{s t:ae Int}{vc vs:ah}(h1:s.length<2^63)(h2:t.length<2^63):
 aY prog (.func 23) [.agg ⟨[vc,vs]⟩] [] [] [ay aj vc s,ay aj vs t] Lv (λ_=>[]) (Dv (bX s) (bX t)) (λy=>y.ok=true↔yQ s/\yQ t):=by
 refine rX.toC _ ?_ (λ_ _=>rfl);refine zH _ (pY 23) λB w0=>?_;refine go ?_;intro b1 b2 b3;refine go ?_;refine Zq ?_;refine gC (adb (p:=s) h1) λy1 hy1=>?_;obtain⟨v12,e12⟩:=y1;obtain⟨hy1,hn1⟩:=hy1;dsimp only at hy1 hn1⊢;refine go ?_;refine vW (adK (v:=v12) (e:=e12)) (λy v hy e=>?_) (λy ch hy e=>?_)
 rotate_left
 .cases y with
  |true=>cases e
  |false=>
   injection e with e;subst e;have hno:¬yQ s:=λh=>by have:=hy.2 (hy1.2 h);cases this
   refine go ?_;exact adL rfl ⟨(λh=>by cases h),λh=>absurd h.1 hno⟩ rfl rfl w7 w7
 cases y with
 |false=>cases e
 |true=>
 injection e with e;subst e;have he:=hy.1 rfl;subst he;have hok1:=hy1.1 rfl;clear hy hy1 hn1;refine fA (ay aj v12 (bX s)) (λw hw=>hw (lc ((0:Int)=0) (ay aj v12 (bX s))) s7 rfl) ?_;refine gC (adb (p:=t) h2) λy1 hy1=>?_;obtain⟨v20,e20⟩:=y1;obtain⟨hy1,hn1⟩:=hy1;dsimp only at hy1 hn1⊢;refine go ?_;refine vW (adK (v:=v20) (e:=e20)) (λy v hy e=>?_) (λy ch hy e=>?_)
 rotate_left
 .cases y with
  |true=>cases e
  |false=>
   injection e with e;subst e;have hno:¬yQ t:=λh=>by have:=hy.2 (hy1.2 h);cases this
   refine go ?_;exact adL rfl ⟨(λh=>by cases h),λh=>absurd h.2 hno⟩ rfl rfl w7 w7
 cases y with
 |false=>cases e
 |true=>
 injection e with e;subst e;have he:=hy.1 rfl;subst he;have hok2:=hy1.1 rfl;clear hy hy1 hn1;refine fA (ay aj v20 (bX t)) (λw hw=>hw (lc ((0:Int)=0) (ay aj v20 (bX t))) s7 rfl) ?_;refine gF aj v12 (bX s) λa1 c1 K7=>?_;subst K7;refine gF aj v20 (bX t) λa2 c2 ev2=>?_;subst ev2;refine go ?_;refine ard (vc:=.slice a1 (bX s).length c1) (vs:=.slice a2 (bX t).length c2) rfl rfl ⟨λ_=>⟨hok1,hok2⟩,λ_=>rfl⟩ (λw h f hf=>?_) rfl rfl tc;have hf:f∈[ay aj (.slice a1 (bX s).length c1) (bX s),ay aj (.slice a2 (bX t).length c2) (bX t)]:=hf;rcases dm.1 hf with rfl|hf
 .exact h _ s7
 .rw[bR.1 hf];exact h _ s7
