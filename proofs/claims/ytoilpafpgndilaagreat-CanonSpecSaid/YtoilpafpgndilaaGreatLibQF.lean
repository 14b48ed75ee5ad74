/- Part. -/
import Derived.Test.YtoilpafpgndilaaGreatLibMF
set_option linter.all false
set_option maxRecDepth 10000
set_option maxHeartbeats 4000000
namespace Go.Proofs.YtoilpafpgndilaaGreat
open Go.Ideal Kd Canon
structure asS(k:bD)(s t grid:List Int)(e:Int):Prop where
 nk:¬dH k->e=180
 ns:dH k->¬lc k s t->e=230
 nf:dH k->lc k s t->¬OP k grid->e=200
 ok:dH k->lc k s t->OP k grid->e=0
variable{k:bD}{t s:kI Int}
def OP.gri{grid:kI Int}(hk:lc k s t)(hF:OP k grid):lg k.grid.cells.length k.decl.symbols.length s t grid (al6 s t grid):=by
 obtain⟨h1,h2⟩:=hF;exact aqA hk.pc hk.ps z7 λx hx=>by have:=h2 x hx;omega
def clI(k:bD)(s:kI Int)(g:Clue):Clue×Bool:=
 match k.decl.aJ[g.adJ.toNat]? with
 |none=>(g,false)
 |some c=>(⟨g.adJ,lH (k.lists.getD c.family.toNat []) s c.family g.at_,g.values⟩,oM s ((k.lists.getD c.family.toNat []).getD g.at_.toNat []) ((k.lists.getD c.family.toNat []).getD (lH (k.lists.getD c.family.toNat []) s c.family g.at_).toNat []))
def aip(k:bD)(t:kI Int)(x:Clue×Bool):Clue:=
 match k.decl.aJ[x.1.adJ.toNat]? with
 |none=>x.1
 |some c=>⟨x.1.adJ,x.1.at_,if c.type=1 then img t x.1.values else if c.type=3/\x.2=true then x.1.values.reverse else x.1.values⟩
def aqQ(k:bD)(s t:kI Int)(g:Clue):aip k t (clI k s g)=l8 k s t g:=by
 unfold clI l8;cases h:k.decl.aJ[g.adJ.toNat]? with
 |none=>
  dsimp only;unfold aip;rw[h]
 |some c=>
  dsimp only;unfold aip;dsimp only;rw[h];rfl
variable{g:Clue}{c:gW}
def OT.clI{L:kI (kI Int)}{j i:Nat}{l l':kI Int}(G:OT k s t g c L j i l l'):clI k s g=(⟨g.adJ,(i:Int),g.values⟩,oM s l l'):=by
 have hw:=G.goes.lH G.kE;unfold Go.Proofs.YtoilpafpgndilaaGreat.clI;rw[G.hc];dsimp only;rw[j5 G.hL,G.at_,hw,kJ,kJ,j5 G.hl,j5 G.hl']
abbrev CE:=(Clue×vI)×Bool
def ail(x:CE):Clue×Bool:=(x.1.1,x.2)
def ceV(x:CE):kI vI:=[wy x.1.1 x.1.2,.bool x.2]
def ceF(x:CE):kI aO:=[ai ae x.1.2 x.1.1.values]
def aiq(l:kI (Clue×Bool)):kI CE:=l.map λy=>((y.1,.nilFunc),y.2)
def amD(l:kI (Clue×Bool)):(aiq l).map ail=l:=by
 unfold aiq;rw[wR];have:ail∘(λy:Clue×Bool=>(((y.1,Value.nilFunc),y.2):CE))=id:=rfl;rw[this,alU]
variable{vh vs vr vc vu gh gc vn vl sc st vp:vI}
def aqR:
 bA Tryz.prog (.func 51) [.agg ⟨kZ k vh vs vr vc vu gh gc vn vl⟩,.agg ⟨[sc,st]⟩,.agg ⟨[vp]⟩] [] [] [] (λy:Nat×Nat×Nat=>.func (.func 93) #[] #[ptr' y.1,ptr' y.2.1,ptr' y.2.2]) (λ_=>[])
  (λy=>[gY y.1 0 [vp],gY y.2.1 0 (kZ k vh vs vr vc vu gh gc vn vl),gY y.2.2 0 [sc,st]]) (λ_=>True):=by
 refine gB 51 λB w0=>?_;refine go ?_;intro b3 b4 b5;refine go ?_;refine gP b3 ?_;refine gP b4 ?_;refine gP b5 ?_;exact gQ (b5,b3,b4) trivial
def aqS{b:Nat}{vw:vI}{w:kI Int}(hw:w.length<=1000000)(x:kI Int)(hx:x.length<=1000000):OC Tryz.prog (.func 97) [] [ptr' b] [gY b 0 [vw],ai ae vw (bW w)] (λx=>xV x w) x:=by
 have h1:=AV x;intro v;rw[dY];refine gB 97 λB w0=>?_;refine gC (agx (v:=v) (xs:=x)) λb1 _=>?_;refine gC (VT (agy (b:=b1) (v:=v) (xs:=x) z7) (λys h=>by rw[h];exact hx)) λy hy=>?_;obtain⟨v2,xs2⟩:=y;have hy:xs2=x:=hy;subst hy;dsimp only[List.cons_append,List.nil_append];refine aie (A:=ap ae v2 (bW xs2)) (fs:=[ai ae v2 (bW xs2)]) gz (h:=?_);refine gC (Bf (xs:=bW xs2) (ys:=bW w) z7) λ_ _=>?_;exact afN
variable{p:kI Clue}
def aqT{bk bs bp:Nat}(hK:dH k)(hk:lc k s t)(hQ:age k p):
 al1 Tryz.prog ceV ceF (.func 93) [] [ptr' bp,ptr' bk,ptr' bs] [gY bp 0 [vp],gY bk 0 (kZ k vh vs vr vc vu gh gc vn vl),gY bs 0 [sc,st],ai bO vp p,ai ae sc s,ai bI vc k.decl.aJ,ai (ak (ak ae)) vl k.lists] (λxs=>xs.map ail=p.map (clI k s)):=by
 intro S inv ok step s0 Fb y1 y2 F' h0 hok hy;rw[fV,fV,fV,fV,fV,fV,fV,dY];have hpl:=hQ.len;have hsl:=hk.pc.len;have hn:=hK.Vm;have aln:∀r∈k.decl.regions,CZ (aT k.decl) r.lists:=λr hr=>(hK.typ.Dl r hr).1.2;have alo:=amZ hK.cZ aln;have hlin:=amW hK.cZ aln;rw[<- hK.lists]at alo hlin;refine gB 93 λB w0=>?_;refine gF bO vp p λJS cp ep=>?_;subst ep;refine gF ae sc s λasc csc esc=>?_;subst esc;refine go ?_;refine aU (λy:Nat×kI CE×S=>p.length - y.1) (λy=>[(17,iV (y.1:Int))]) (λy=>inv y.2.2) (λ_=>[]) (λy=>y.1<=p.length/\ok y.2.1 y.2.2/\y.2.1.map ail=(p.take y.1).map (clI k s)/\∀rest,mD step s0 (y.2.1++rest)=mD step y.2.2 rest) (0,[],s0) ⟨bR _,h0,rfl,λ_=>rfl⟩ (body:=?_);rintro⟨jj,kU,s0'⟩ ⟨hj,hos,ajb,hrun⟩;dsimp only at hj hos ajb hrun⊢;refine gIf ?_ ?_<;>intro h1
 rotate_left
 .have iR:jj=p.length:=by omega
  subst iR;rw[bU]at ajb;have hr2:=hrun [];rw[gU]at hr2;refine go ?_;exact gQ kU ajb (hk:=by rw[hr2];exact aI.all _)
 refine gX bO (xs:=p) λ_ _ g (vg:vI) hg=>?_;have hgm:=aZ hg;obtain⟨c,L,j,i,l,l',G⟩:=Bw hK hk (hQ.right g hgm);obtain⟨gcl,zJ,Ke⟩:=g;have hcl:0<=gcl:=G.adJ;have aqU:zJ=(j:Int):=G.at_;obtain⟨cn,rfl⟩:=jA hcl;subst aqU
 have hcc:k.decl.aJ[cn]? =some c:=by have:=G.hc;dsimp only at this;rwa [kJ]at this
 have Xc:=(bq.1 hcc).1;have akQ:=hK.kE c (aZ hcc);obtain⟨fn,hfn⟩:=jA akQ.1;have hLL:=G.hL;rw[hfn,kJ]at hLL;have hLm:=aZ hLL;have asT:=alo L hLm;have hLl:∀x∈L,x.length<=4096:=λx hx=>(hlin L hLm x hx).1;have hlr:=G.kE.fG l (aZ G.hl);have hlen:=hLl l (aZ G.hl);have hil:(img s l).length=l.length:=NG s l;have FJ:=G.goes.lH G.kE;have hjl:=(bq.1 G.hl).1;have anh:=(bq.1 G.hl').1;refine go ?_;intro b6;refine gX bI (xs:=k.decl.aJ) (k:=cn) λ_ _ c2 (_:Unit) hc2=>?_;rw[hcc]at hc2;obtain rfl:c=c2:=Option.some.inj hc2;refine go ?_;rw[hfn];refine gX (ak (ak ae)) (xs:=k.lists) (k:=fn) λ_ _ L2 (vL:vI) hL2=>?_;rw[hLL]at hL2;obtain rfl:L=L2:=Option.some.inj hL2;refine gF (ak ae) vL L λaL cL eL=>?_;subst eL;refine gX (ak ae) (xs:=L) (k:=j) λ_ _ l2 (vl2:vI) hl2=>?_;rw[G.hl]at hl2;obtain rfl:l=l2:=Option.some.inj hl2;refine gF ae vl2 l λal cl el=>?_;subst el;refine go ?_;refine af5 ae ?_;refine aU (λy:Nat×vI=>l.length - y.1) (λy=>[(40,iV (y.1:Int)),(9,y.2)]) (λy=>ap ae y.2 (img s (l.take y.1))::pt b6 (.cells [iV (cn:Int),iV (j:Int),vg])::inv s0') (λ_=>[]) (λy=>y.1<=l.length) (0,.slice none 0 0) (bR _) (hk:=by repeat (first|exact aI.all _|exact aI.nil|(apply aI.cons;(focus (repeat (first|exact az.here|apply az.there)))))) (body:=?_);rintro⟨q,v9⟩ hq;dsimp only at hq⊢;have hql:(img s (l.take q)).length=q:=Hi
 refine gIf ?_ ?_<;>intro h2
 .refine go ?_;intro _ _ x hx;have Dh:=hlr x (aZ hx);exact cG
 have hqe:q=l.length:=z7
 subst hqe;rw[bU]at hql⊢;refine pO (E:=ae) (v:=v9) (xs:=img s l) λa9 hv=>?_;subst hv;refine gH ?_ ?_<;>intro c0
 rotate_left
 .have hcf:c.family=0:=by omega
  exact aq
 refine gH ?_ ?_<;>intro c4
 rotate_left
 .have hcf:c.family=4:=by omega
  exact aq
 refine gIf ?_ ?_<;>intro c5
 .have hcf:c.family=5:=by omega
  exact aq
 refine gC (aqo (a:=a9) (n:=(img s l).length) (c:=(img s l).length)) λb1 _=>?_;refine gC (aqt (A:=ap ae (.slice a9 (img s l).length (img s l).length) (img s l)) (aqp (b:=b1) (a:=a9) (xs:=img s l) z7) (λys h=>by rw[h];omega)) λy hy2=>?_;obtain⟨v2,xs2⟩:=y;have hy2:xs2=img s l:=hy2;subst hy2;dsimp only[List.cons_append,List.nil_append];refine aie (A:=ap ae v2 (bW (img s l))) (fs:=[ai ae v2 (bW (img s l))]) gz (h:=?_);refine gF ae v2 (bW (img s l)) λa12 c12 e12=>?_;subst e12;refine go ?_;intro b12;refine go ?_;refine gP b12 ?_;refine gC (an3 (fn:=.func 97) (first:=[]) (cap:=[ptr' b12]) (F1:=[gY b12 0 [.slice a12 (bW (img s l)).length c12],ai ae (.slice a12 (bW (img s l)).length c12) (bW (img s l))]) (p:=λx=>xV x (img s l)) (va:=.slice aL L.length cL) (xs:=L) z7 (λx hx=>aqS z7 x (by have:=hLl x hx;omega))) λ_ _=>?_;rw[show ajB (λx=>xV x (img s l)) L=(i:Int)by
  have h3:=FJ;unfold lH at h3;rw[if_neg (by
   unfold u7;have a0:c.family≠0:=z7
   have a4:c.family≠4:=z7
   have a5:c.family≠5:=z7
   simp[a0,a4,a5]),kJ,j5 G.hl]at h3
  exact h3]
 refine go ?_;refine gX (ak ae) (xs:=L) (k:=i) λ_ _ l2 (vl2:vI) hl2=>?_;rw[G.hl']at hl2;obtain rfl:l'=l2:=Option.some.inj hl2;refine gC (ali (a:=a9) (xs:=img s l) (ys:=l') C3) λ_ _=>?_;refine gC (alL (a:=a9) (xs:=img s l) C3) λ_ _=>?_;generalize hxd:(((⟨(cn:Int),(i:Int),Ke⟩,vg),oM s l l'):CE)=x;have hnx:(p.take (jj+1)).map (clI k s)=(p.take jj).map (clI k s)++[ail x]:=by
  rw[bZ hg,fP,sQ,<- hxd,G.clI];rfl
 have hX:(kU++x::aiq ((p.drop (jj+1)).map (clI k s))).map ail=p.map (clI k s):=by
  rw[fP,agO,amD,ajb];conv=>rhs;rw[<- uq (jj+1) p,fP,hnx,List.append_assoc]
  rfl
 have Bi:=hy _ s0' _ _ hos hX;rw[show ceV x=[wy ⟨(cn:Int),(i:Int),Ke⟩ vg,.bool (oM s l l')]by rw[<- hxd];rfl,show ceF x=[ai ae vg Ke]by rw[<- hxd];rfl]at Bi;rw[fV,dY]at Bi;have hrl:(img s l).reverse.length=(img s l).length:=akP;by_cases e0:img s l=l'
 .rw[dK e0];have htb:oM s l l'=false:=by unfold oM;simp[e0]
  rw[htb]at Bi;refine gC Bi λ_ _=>?_;cases hst:(step s0' x).2 with
  |true=>
   exact bh
  |false=>
   exact bt
 .rw[aR e0];have htb:oM s l l'=decide ((img s l).reverse=l'):=by unfold oM;simp[e0]
  rw[htb]at Bi;refine gX (ak ae) (xs:=L) (k:=i) λ_ _ l3 (vl3:vI) hl3=>?_;rw[G.hl']at hl3;obtain rfl:l'=l3:=Option.some.inj hl3;refine go ?_;rw[<- hrl];refine ay (ali (a:=a9) (xs:=(img s l).reverse) (ys:=l') (by rw[hrl,hil];omega)) (next:=λ_ _=>?_);refine gC Bi λ_ _=>?_;cases hst:(step s0' x).2 with
  |true=>
   exact bh
  |false=>
   exact bt
structure aoi(k:bD)(s t:List Int)(p:List Clue)(e:Int):Prop where
 nk:¬dH k->e=180
 ns:dH k->¬lc k s t->e=230
 np:dH k->lc k s t->¬age k p->e=190
 ok:dH k->lc k s t->age k p->e=0
structure aoj where
 v:Value
 x:List Clue
 e:Int
def aok(k:bD)(t:kI Int):∀(xs:kI CE) (z:kI Clue),pq (λ(z:kI Clue) (x:CE)=>(z++[aip k t (ail x)],Out.normal)) z xs=(z++(xs.map ail).map (aip k t),Out.normal)
 |[],z=>by simp[pq]
 |x::xs,z=>by
  rw[pq];dsimp only;rw[aok k t xs,agO,agO,List.append_assoc];rfl
def aqV{cl at_:Int}{vs:kI Int}{b:Bool}(h:k.decl.aJ[cl.toNat]? =some c):aip k t (⟨cl,at_,vs⟩,b)=⟨cl,at_,if c.type=1 then img t vs else if c.type=3/\b=true then vs.reverse else vs⟩:=by
 unfold aip;dsimp only;rw[h]
def mY.akz(h:mY k g):g.values.length<=8:=by
 obtain⟨c',L',a1,a2,a3,a4,a5,a6⟩:=h;rcases a6 with⟨a,b,_⟩|⟨a,b,_⟩|⟨a,_,b,_⟩<;>omega
set_option maxRecDepth 100000 in
def aqW(hS:nZ k)(hP:wK p)(hs:s.length<2^63)(ht:t.length<2^63):
 bA Tryz.prog (.func 26) [.agg ⟨kZ k vh vs vr vc vu gh gc vn vl⟩,.agg ⟨[sc,st]⟩,.agg ⟨[vp]⟩] [] [] (ai bO vp p::ai ae sc s::ai ae st t::j6 k vh vs vr vc vu gh gc vn vl []) (λy:aoj=>.tuple ⟨[.agg ⟨[y.v]⟩,iV y.e]⟩) (λ_=>[])
  (λy=>[jr (y.e=0) (ai bO y.v y.x)]) (λy=>aoi k s t p y.e/\(y.e=0->l7 (p.map (l8 k s t)) y.x)/\(y.e≠0->y.v=.slice none 0 0)):=by
 refine MM _ (aP 26) λB w0=>?_;dsimp only[j6];refine gF ae st t λast cst est=>?_;subst est;refine go ?_;intro b3 b4 b5 b6;refine gP b3 ?_;refine gP b4 ?_;refine gP b5 ?_;refine gC (aqP (k:=k) (s:=s) (t:=t) hS hs ht) λe he=>?_;refine gIf (λhne=>?_) (λhz=>?_)
 .refine go ?_;refine jE (c:=e=0) (f:=ai bO (.slice none 0 0) ([]:kI Clue)) hne ?_;exact IJ ⟨.slice none 0 0,[],e⟩ (hv:=rfl) (hp:=⟨⟨he.nk,he.ns,λa b _=>absurd (he.ok a b) hne,λa b _=>absurd (he.ok a b) hne⟩,λh=>absurd h hne,λ_=>rfl⟩)
 have hz:e=0:=ic.1 hz;subst hz;have hK:dH k:=Classical.byContradiction λh=>by have:=he.nk h;omega
 have hk:lc k s t:=Classical.byContradiction λh=>by have:=he.ns hK h;omega
 clear he;refine gC (ag2 (k:=k) (p:=p) hS hP) λe he=>?_;refine gIf (λhne=>?_) (λhz=>?_)
 .refine go ?_;refine jE (c:=e=0) (f:=ai bO (.slice none 0 0) ([]:kI Clue)) hne ?_;exact IJ ⟨.slice none 0 0,[],e⟩ (hv:=rfl) (hp:=⟨⟨λh=>absurd hK h,λ_ h=>absurd hk h,λa _ b=>he.2.1 a b,λa _ b=>absurd (he.2.2 a b) hne⟩,λh=>absurd h hne,λ_=>rfl⟩)
 have hz:e=0:=ic.1 hz;subst hz;have hQ:age k p:=Classical.byContradiction λh=>by have:=he.2.1 hK h;omega
 clear he;have hpl:=hQ.len;have htl:=hk.ps.len;have hm:=hK.typ.lim.s1;refine go ?_;intro b8;refine gC (aqR (k:=k) (sc:=sc) (st:=.slice ast t.length cst) (vp:=vp)) λyl _=>?_;refine go ?_;refine af5 bO ?_;refine SC (λv:vI=>[pt b8 (.cells [v]),ap bO v ([]:kI Clue)]) (.slice none 0 0) (h:=?_);refine anQ (Z:=Nat) (λ(z:kI Clue) (x:CE)=>(z++[aip k t (ail x)],Out.normal)) (λz=>[MK λv:vI=>[pt b8 (.cells [v]),ap bO v z]]) (λvs z=>z=(vs.map ail).map (aip k t)) [] _ (λx z=>[pt z (.cells [iV x.1.1.adJ,iV x.1.1.at_,x.1.2])]) rfl (λvs z x rest hz _ _=>by rw[hz,fP,fP];rfl)
  (aqT (bk:=yl.2.1) (bs:=yl.2.2) (bp:=yl.1) (k:=k) (s:=s) (t:=t) (p:=p) (sc:=sc) (st:=.slice ast t.length cst) (vp:=vp) hK hk hQ)
  (by intro z x lo o B w0;dsimp only[ceV,ceF,List.cons_append,List.nil_append,List.zip_cons_cons,List.zip_nil_left,List.reverse_cons,List.reverse_nil];refine go ?_;intro b9;refine go ?_;exact IU b9 rfl) ?_ ?_ (λ_ _=>trivial)
 .rintro kU z ⟨⟨⟨gcl,zJ,Ke⟩,wv⟩,bb⟩ rest b9 lo LL B w0 hz hX;have hxm:(⟨gcl,zJ,Ke⟩,bb)∈p.map (clI k s):=by rw[<- hX];exact eT.2 ⟨((⟨gcl,zJ,Ke⟩,wv),bb),An,rfl⟩
  obtain⟨g,hgm,hge⟩:=eT.1 hxm;obtain⟨c,L,j,i,l,l',G⟩:=Bw hK hk (hQ.right g hgm);have hgR:=hQ.right g hgm;rw[G.clI]at hge;injection hge with hge hbe;injection hge with e1 e2 e3;have hcl0:0<=gcl:=by rw[<- e1];exact G.adJ
  obtain⟨cn,rfl⟩:=jA hcl0;have hcc:k.decl.aJ[cn]? =some c:=by have:=G.hc;rwa [e1,kJ]at this
  have Xc:=(bq.1 hcc).1;subst e2;have hgv:Ke.length<=8/\(c.type=1->Ke.length=1):=by
   obtain⟨c',L',a1,a2,a3,a4,a5,a6⟩:=hgR;rw[G.hc]at a2;cases a2;rw[e3]at a6;rcases a6 with⟨a,b,_⟩|⟨a,b,_⟩|⟨a,_,b,_⟩
   .exact⟨z7,λ_=>b⟩
   .exact⟨z7,λh=>by omega⟩
   .exact⟨b,λh=>absurd h a⟩
  have hgr:c.type=1->∀x∈Ke,0<=x/\x<(k.decl.symbols.length:Int):=by rw[<- e3];exact G.vals hgR
  have hcF:=aqV (k:=k) (t:=t) (cl:=(cn:Int)) (at_:=(i:Int)) (vs:=Ke) (b:=bb) (c:=c) (by rw[kJ];exact hcc)
  have hzl:z.length<=512:=by
   have h2:=congrArg List.length hX;rw[bY,iH,bY]at h2;rw[hz,bY,bY];omega
  dsimp only[ceF,ail,List.cons_append,List.nil_append,List.reverse_cons,List.reverse_nil];refine SB (h:=λv=>?_);refine gC (am8 (v:=wv) (xs:=Ke) z7) λa _=>?_;refine gX bI (xs:=k.decl.aJ) (k:=cn) λ_ _ c2 (_:Unit) hc2=>?_;rw[hcc]at hc2;obtain rfl:c=c2:=Option.some.inj hc2;refine gIf ?_ ?_<;>intro t1
  .obtain⟨v0,rfl⟩:∃v0,Ke=[v0]:=by
    match Ke,hgv.2 t1 with
    |[v0],_=>exact⟨v0,rfl⟩
   have hv0:=hgr t1 v0 (bM.2 rfl);obtain⟨lJ,rfl⟩:=jA hv0.1;refine adE (v:=.slice a [(lJ:Int)].length [(lJ:Int)].length) (xs:=[(lJ:Int)]) An λbb2 f pre hf ev=>?_;obtain rfl:a=some ⟨bb2,pre.length,some f⟩:=by injection ev
   refine go ?_;refine qh (b:=bb2) (o:=pre.length+0*1) (cs:=pre++[(lJ:Int)].map iV) (iV (lJ:Int)) (TS (k:=0) rfl) ?_;refine go ?_;intro _ _ zt hzt;have anj:=ji hzt;refine go ?_;refine qI (b:=bb2) (o:=pre.length+0*1) (cs:=pre++[(lJ:Int)].map iV) (v:=iV zt) (cs':=pre++[zt].map iV) (TT (k:=0)) An ?_;refine adF (b:=bb2) (f:=f) (m:=1) (pre:=pre) (xs:=[zt]) rfl hf ?_;refine aie (A:=ap ae (.slice (some ⟨bb2,pre.length,some f⟩) 1 1) [zt]) (fs:=[ai ae (.slice (some ⟨bb2,pre.length,some f⟩) 1 1) [zt]]) gz (h:=?_);refine eF (ai ae (.slice (some ⟨bb2,pre.length,some f⟩) 1 1) (aip k t (⟨(cn:Int),(i:Int),[(lJ:Int)]⟩,bb)).values) (λw hw=>by rw[hcF,if_pos t1];show(ai ae _ [aB t (lJ:Int)]).p w;rw[anj];exact hw (ai ae (.slice (some ⟨bb2,pre.length,some f⟩) 1 1) [zt]) An) ?_;refine go ?_;intro b64;refine go ?_;refine fB (xs:=z) bO (aip k t (⟨(cn:Int),(i:Int),[(lJ:Int)]⟩,bb)) (.slice (some ⟨bb2,pre.length,some f⟩) 1 1) z7 (hp:=E3) (next:=λad=>?_);refine go ?_;refine SC (λv:vI=>[pt b8 (.cells [v]),ap bO v (z++[aip k t (⟨(cn:Int),(i:Int),[(lJ:Int)]⟩,bb)])]) _ (h:=?_);exact kq
  refine gIf ?_ ?_<;>intro t3
  .refine go ?_;cases bb with
   |true=>
    refine gC (alL (a:=a) (xs:=Ke) z7) λ_ _=>?_;refine aie (A:=ap ae (.slice a Ke.length Ke.length) Ke.reverse) (fs:=[ai ae (.slice a Ke.length Ke.length) Ke.reverse]) gz (h:=?_);refine eF (ai ae (.slice a Ke.length Ke.length) (aip k t (⟨(cn:Int),(i:Int),Ke⟩,true)).values) (λw hw=>by rw[hcF,if_neg t1,if_pos ⟨t3,rfl⟩];exact hw (ai ae (.slice a Ke.length Ke.length) Ke.reverse) An) ?_;refine go ?_;intro b64;refine go ?_;refine fB (xs:=z) bO (aip k t (⟨(cn:Int),(i:Int),Ke⟩,true)) (.slice a Ke.length Ke.length) z7 (hp:=E3) (next:=λad=>?_);refine go ?_;refine SC (λv:vI=>[pt b8 (.cells [v]),ap bO v (z++[aip k t (⟨(cn:Int),(i:Int),Ke⟩,true)])]) _ (h:=?_);exact EY () rfl trivial trivial
   |false=>
    refine aie (A:=ap ae (.slice a Ke.length Ke.length) Ke) (fs:=[ai ae (.slice a Ke.length Ke.length) Ke]) gz (h:=?_);refine eF (ai ae (.slice a Ke.length Ke.length) (aip k t (⟨(cn:Int),(i:Int),Ke⟩,false)).values) (λw hw=>by rw[hcF,if_neg t1,if_neg An];exact hw (ai ae (.slice a Ke.length Ke.length) Ke) An) ?_;refine go ?_;intro b64;refine go ?_;refine fB (xs:=z) bO (aip k t (⟨(cn:Int),(i:Int),Ke⟩,false)) (.slice a Ke.length Ke.length) z7 (hp:=E3) (next:=λad=>?_);refine go ?_;refine SC (λv:vI=>[pt b8 (.cells [v]),ap bO v (z++[aip k t (⟨(cn:Int),(i:Int),Ke⟩,false)])]) _ (h:=?_);exact kq
  .refine aie (A:=ap ae (.slice a Ke.length Ke.length) Ke) (fs:=[ai ae (.slice a Ke.length Ke.length) Ke]) gz (h:=?_);refine eF (ai ae (.slice a Ke.length Ke.length) (aip k t (⟨(cn:Int),(i:Int),Ke⟩,bb)).values) (λw hw=>by rw[hcF,if_neg t1,if_neg (λq=>t3 (by have:=q.1;omega))];exact hw (ai ae (.slice a Ke.length Ke.length) Ke) An) ?_;refine go ?_;intro b64;refine go ?_;refine fB (xs:=z) bO (aip k t (⟨(cn:Int),(i:Int),Ke⟩,bb)) (.slice a Ke.length Ke.length) z7 (hp:=E3) (next:=λad=>?_);refine go ?_;refine SC (λv:vI=>[pt b8 (.cells [v]),ap bO v (z++[aip k t (⟨(cn:Int),(i:Int),Ke⟩,bb)])]) _ (h:=?_);exact kq
 .intro r xs hX;rw[aok,hX];dsimp only[List.cons_append,List.nil_append];have hmap:(p.map (clI k s)).map (aip k t)=p.map (l8 k s t):=by
   rw[wR];exact sN λg _=>aqQ k s t g
  rw[hmap];refine SB (h:=λv=>?_);refine go ?_;refine aie (A:=ap bO v (p.map (l8 k s t))) (fs:=[ai bO v (p.map (l8 k s t))]) gz (h:=?_);refine ay (aqg (v:=v) (xs:=p.map (l8 k s t)) CA (λx hx=>by
   exact ta)) (next:=λy hy=>?_)
  obtain⟨v2,ys⟩:=y;dsimp only[List.cons_append,List.nil_append]at hy⊢;refine go ?_;refine jP (c:=(0:Int)=0) (f:=ai bO v2 ys) An ?_;exact IJ ⟨v2,ys,0⟩ (hv:=rfl) (hp:=⟨⟨λh=>absurd hK h,λ_ h=>absurd hk h,λ_ _ h=>absurd hQ h,λ_ _ _=>rfl⟩,λ_=>hy,λh=>absurd rfl h⟩)
