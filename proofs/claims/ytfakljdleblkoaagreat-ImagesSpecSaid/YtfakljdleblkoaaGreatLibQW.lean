/-
  Part LibQW.
-/
import Derived.Test.YtfakljdleblkoaaGreatLibOW
import Derived.Test.YtfakljdleblkoaaGreatLibLW
set_option linter.all false
set_option maxRecDepth 10000
set_option maxHeartbeats 4000000
namespace Go.Proofs.YtfakljdleblkoaaGreat
open Go.Ideal Kd Canon
structure aje(k:bS)(s t grid:List Int)(e:Int):Prop where
 nk:¬eF k->e=180
 ns:eF k->¬nN k s t->e=230
 nf:eF k->nN k s t->¬NV k grid->e=200
 ok:eF k->nN k s t->NV k grid->e=0
variable{k:bS}{t s grid:List Int}
theorem NV.gri(hk:nN k s t)(hF:NV k grid):mo k.grid.cells.length k.decl.symbols.length s t grid (acN s t grid):=by
 obtain⟨h1,h2⟩:=hF;exact amz hk.pc hk.ps vj λx hx=>by have:=h2 x hx;omega
variable{vh vs vr vc vu gh gc vn vl sc st:Value}
theorem amD{vg:Value}(hS:tC k)(hs:s.length<9223372036854775808)(ht:t.length<9223372036854775808)(hl:grid.length<9223372036854775808):
 aU Tryz.prog (.func 21) [.agg ⟨lC k vh vs vr vc vu gh gc vn vl⟩,.agg ⟨[sc,st]⟩,vg] [] [] (ai ae vg grid::ai ae sc s::ai ae st t::ku k vh vs vr vc vu gh gc vn vl []) vY (λ_=>[])
  (λy=>[mQ (y.e=0) (ai ae y.v (acN s t grid))]) (λy=>aje k s t grid y.e/\(y.e≠0->y.v=.slice none 0 0)):=by
 refine aH _ (aN 21) λB w0=>?_;dsimp only[ku];refine aT (E:=ae) (v:=sc) (xs:=s) vm λOc Od esc=>?_;subst esc;refine aT (E:=ae) (v:=st) (xs:=t) vm λast cst est=>?_;subst est;refine aT (E:=ae) (v:=vg) (xs:=grid) vm λag cg eg=>?_;subst eg;refine go ?_;intro b3 b4;refine bi (dR (b:=b4)) (h:=?_);refine go ?_;refine ax (agQ (k:=k) (s:=s) (t:=t) hS hs ht) (next:=λe he=>?_);refine go ?_;refine az rfl (λhne=>?_) (λhz=>?_)
 ·exact gv
 have hz:e=0:=gT.1 hz;subst hz;have hK:eF k:=Classical.byContradiction λh=>by have:=he.nk h;omega
 have hk:nN k s t:=Classical.byContradiction λh=>by have:=he.ns hK h;omega
 refine go ?_;refine ax (al3 (k:=k) (grid:=grid) hS hl) (next:=λe he=>?_);refine go ?_;refine az rfl (λhne=>?_) (λhz=>?_)
 ·exact gb
 have hz:e=0:=gT.1 hz;subst hz;have hF:NV k grid:=Classical.byContradiction λh=>by have:=he.2.1 hK h;omega
 clear he;have hG:=NV.gri hk hF;have hgl:=hG.len;have hsl:=hk.pc.len;have htl:=hk.ps.len;have hn:=hK.Ao;refine go ?_;refine Mh grid.length ⟨vj,vj,vj⟩ λbm=>?_;rw[agr];refine go ?_;refine aW (λy:Nat×List Int=>grid.length - y.1) (λy=>[(27,.int .i64 (y.1:Int))]) (λy=>[pt bm (.cells (y.2.map (.int .i64)))]) (λ_=>[]) (λy=>y.1<=grid.length/\y.2.length=grid.length/\∀c:Int,0<=c->c<(y.1:Int)->aR y.2 (aR s c)=aR t (aR grid c)) (0,rQ [] grid.length) ⟨bQ _,agm (bQ _),λc c0 c1=>by have c1:c<(0:Nat):=c1;omega⟩ (hk:=we) (body:=?_);rintro⟨j,ys⟩ ⟨hj,hyl,hy⟩;dsimp only at hj hyl hy⊢;refine go ?_;refine az rfl (λh1=>?_) (λh1=>?_)
 ·refine go ?_;intro _ _ x hx;have oQ:=hG.vQ x (aP hx);have hxg:=l6 hx;obtain⟨xn,rfl⟩:=iO oQ.1;refine go ?_;intro _ _ d hd;have hdr:=hk.pc.eH d (aP hd);have hdg:=l6 hd;obtain⟨dn,rfl⟩:=iO hdr.1;exact cT
 have gV:j=grid.length:=vj
 subst gV;have hfin:ys=acN s t grid:=by
  exact mu
 subst hfin;refine bi (A:=pt bm (.cells ((acN s t grid).map (.int .i64)))) (fs:=[ai ae (.slice (some ⟨bm,0,some 0⟩) grid.length grid.length) (acN s t grid)]) C7 (h:=?_);refine go ?_;refine lu (c:=(0:Int)=0) (f:=ai ae (.slice (some ⟨bm,0,some 0⟩) grid.length grid.length) (acN s t grid)) vm ?_;exact ah ⟨.slice (some ⟨bm,0,some 0⟩) grid.length grid.length,0⟩ (hv:=rfl) (hp:=⟨⟨λh=>absurd hK h,λ_ h=>absurd hk h,λ_ _ h=>absurd hF h,λ_ _ _=>rfl⟩,λh=>absurd rfl h⟩)
def clI(k:bS)(s:List Int)(g:Clue):Clue×Bool:=
 match k.decl.aJ[g.aQ.toNat]? with
 |none=>(g,false)
 |some c=>(⟨g.aQ,iM (k.lists.getD c.family.toNat []) s c.family g.at_,g.values⟩,ags s ((k.lists.getD c.family.toNat []).getD g.at_.toNat []) ((k.lists.getD c.family.toNat []).getD (iM (k.lists.getD c.family.toNat []) s c.family g.at_).toNat []))
def adO(k:bS)(t:List Int)(x:Clue×Bool):Clue:=
 match k.decl.aJ[x.1.aQ.toNat]? with
 |none=>x.1
 |some c=>⟨x.1.aQ,x.1.at_,if c.type=1 then img t x.1.values else if c.type=3/\x.2=true then x.1.values.reverse else x.1.values⟩
theorem amE(k:bS)(s t:List Int)(g:Clue):adO k t (clI k s g)=Vs k s t g:=by
 unfold clI Vs;cases h:k.decl.aJ[g.aQ.toNat]? with
 |none=>
  dsimp only;unfold adO;rw[h]
 |some c=>
  dsimp only;unfold adO;dsimp only;rw[h];rfl
variable{g:Clue}{c:iJ}
theorem Vt.clI{L:List (List Int)}{j i:Nat}{l l':List Int}(G:Vt k s t g c L j i l l'):clI k s g=(⟨g.aQ,(i:Int),g.values⟩,ags s l l'):=by
 have hw:=G.goes.iM G.iK;unfold Go.Proofs.YtfakljdleblkoaaGreat.clI;rw[G.hc];dsimp only;rw[gz G.hL,G.at_,hw,gy,gy,gz G.hl,gz G.hl']
abbrev CE:=(Clue×Value)×Bool
def acR(x:CE):Clue×Bool:=(x.1.1,x.2)
def ceV(x:CE):List Value:=[aeQ x.1.1 x.1.2,.bool x.2]
def ceF(x:CE):List aK:=[ai ae x.1.2 x.1.1.values]
def aeI(l:List (Clue×Bool)):List CE:=l.map λy=>((y.1,.nilFunc),y.2)
theorem ajF(l:List (Clue×Bool)):(aeI l).map acR=l:=by
 unfold aeI;rw[xS];have:acR∘(λy:Clue×Bool=>(((y.1,Value.nilFunc),y.2):CE))=id:=rfl;rw[this,List.map_id]
variable{vp:Value}
theorem amF:
 aU Tryz.prog (.func 43) [.agg ⟨lC k vh vs vr vc vu gh gc vn vl⟩,.agg ⟨[sc,st]⟩,.agg ⟨[vp]⟩] [] [] [] (λy:Nat×Nat×Nat=>.func (.func 68) #[] #[ptr' y.1,ptr' y.2.1,ptr' y.2.2]) (λ_=>[])
  (λy=>[fA y.1 0 [vp],fA y.2.1 0 (lC k vh vs vr vc vu gh gc vn vl),fA y.2.2 0 [sc,st]]) (λ_=>True):=by
 refine aH _ (aN 43) λB w0=>?_;refine go ?_;intro b3 b4 b5;refine go ?_;refine bi (dR (b:=b3)) (h:=?_);refine bi (dR (b:=b4)) (h:=?_);refine bi (dR (b:=b5)) (h:=?_);exact ah (b5,b3,b4) (hv:=rfl) (hp:=trivial)
theorem amG{b:Nat}{vw:Value}{w:List Int}(hw:w.length<=1000000)(x:List Int)(hx:x.length<=1000000):E5 Tryz.prog (.func 72) [] [ptr' b] [fA b 0 [vw],ai ae vw (bM w)] (λx=>iT x w) x:=by
 have h1:=yI x;intro v;rw[dX];refine aH _ (aN 72) λB w0=>?_;refine go ?_;refine ax (afL (v:=v) (xs:=x)) (next:=λb1 _=>?_);refine go ?_;refine ax (UX (afM (b:=b1) (v:=v) (xs:=x) vj) (λys h=>by rw[h];exact hx)) (next:=λy hy=>?_);obtain⟨v2,xs2⟩:=y;have hy:xs2=x:=hy;subst hy;dsimp only[List.cons_append,List.nil_append];refine bi (A:=ap ae v2 (bM xs2)) (fs:=[ai ae v2 (bM xs2)]) fQ (h:=?_);refine go ?_;refine ax (uH (xs:=bM xs2) (ys:=bM w) vj) (next:=λ_ _=>?_);refine go ?_;exact ah () (hv:=rfl) (hp:=trivial)
variable{p:List Clue}
theorem amH{bk bs bp:Nat}(hK:eF k)(hk:nN k s t)(hQ:Ck k p):
 ajK Tryz.prog ceV ceF (.func 68) [] [ptr' bp,ptr' bk,ptr' bs] [fA bp 0 [vp],fA bk 0 (lC k vh vs vr vc vu gh gc vn vl),fA bs 0 [sc,st],ai aaH vp p,ai ae sc s,ai bP vc k.decl.aJ,ai (ak (ak ae)) vl k.lists] (λxs=>xs.map acR=p.map (clI k s)):=by
 intro S inv ok step s0 Eu y1 y2 F' h0 hok hy;rw[fM,fM,fM,fM,fM,fM,fM,dX];have hpl:=hQ.len;have hsl:=hk.pc.len;have hn:=hK.Ao;have VI:∀r∈k.decl.regions,vN (aO k.decl) r.lists:=λr hr=>(hK.typ.yX r hr).1.2;have VJ:=adw hK.bZ VI;have hlin:=adf hK.bZ VI;rw[<- hK.lists]at VJ hlin;refine aH _ (aN 68) λB w0=>?_;refine aT (E:=aaH) (v:=vp) (xs:=p) vm λap1 cp ep=>?_;subst ep;refine aT (E:=ae) (v:=sc) (xs:=s) vm λOc Od esc=>?_;subst esc;refine go ?_;refine aW (λy:Nat×List CE×S=>p.length - y.1) (λy=>[(17,.int .i64 (y.1:Int))]) (λy=>inv y.2.2) (λ_=>[]) (λy=>y.1<=p.length/\ok y.2.1 y.2.2/\y.2.1.map acR=(p.take y.1).map (clI k s)/\∀rest,lX step s0 (y.2.1++rest)=lX step y.2.2 rest) (0,[],s0) ⟨bQ _,h0,rfl,λ_=>rfl⟩ (body:=?_);rintro⟨jj,kH,s0'⟩ ⟨hj,hos,ae1,hrun⟩;dsimp only at hj hos ae1 hrun⊢;refine go ?_;refine az rfl (λh1=>?_) (λh1=>?_)
 rotate_left
 ·have gV:jj=p.length:=by omega
  subst gV;rw[bJ]at ae1;have hr2:=hrun [];rw[iI]at hr2;refine go ?_;exact ah kH (hv:=rfl) (hp:=ae1) (hk:=by rw[hr2];exact aI.all _)
 refine go ?_;refine bq aaH (xs:=p) (next:=λ_ _ g (vg:Value) hg=>?_);have hgm:=aP hg;obtain⟨c,L,j,i,l,l',G⟩:=goG hK hk (hQ.right g hgm);obtain⟨gcl,gat,gvs⟩:=g;have hcl:0<=gcl:=G.aQ;have amI:gat=(j:Int):=G.at_;obtain⟨cn,rfl⟩:=iO hcl;subst amI
 have hcc:k.decl.aJ[cn]? =some c:=by have:=G.hc;dsimp only at this;rwa [gy]at this
 have akG:=(bC.1 hcc).1;have Wq:=hK.iK c (aP hcc);obtain⟨fn,hfn⟩:=iO Wq.1;have hLL:=G.hL;rw[hfn,gy]at hLL;have hLm:=aP hLL;have an0:=VJ L hLm;have hLl:∀x∈L,x.length<=4096:=λx hx=>(hlin L hLm x hx).1;have hlr:=G.iK.eH l (aP G.hl);have hlen:=hLl l (aP G.hl);have hil:(img s l).length=l.length:=EO s l;have lq:=G.goes.iM G.iK;have hjl:=(bC.1 G.hl).1;have ajM:=(bC.1 G.hl').1;refine go ?_;intro b6;refine go ?_;refine bq bP (xs:=k.decl.aJ) (k:=cn) (next:=λ_ _ c2 (_:Unit) hc2=>?_);rw[hcc]at hc2;obtain rfl:c=c2:=Option.some.inj hc2;refine go ?_;rw[hfn];refine go ?_;refine bq (ak (ak ae)) (xs:=k.lists) (k:=fn) (next:=λ_ _ L2 (vL:Value) hL2=>?_);rw[hLL]at hL2;obtain rfl:L=L2:=Option.some.inj hL2;refine aT (E:=ak ae) (v:=vL) (xs:=L) vm λaL cL eL=>?_;subst eL;refine go ?_;refine bq (ak ae) (xs:=L) (k:=j) (next:=λ_ _ l2 (y8:Value) hl2=>?_);rw[G.hl]at hl2;obtain rfl:l=l2:=Option.some.inj hl2;refine aT (E:=ae) (v:=y8) (xs:=l) vm λal cl el=>?_;subst el;refine go ?_;refine gH ae ?_;refine aW (λy:Nat×Value=>l.length - y.1) (λy=>[(40,.int .i64 (y.1:Int)),(9,y.2)]) (λy=>ap ae y.2 (img s (l.take y.1))::pt b6 (.cells [.int .i64 (cn:Int),.int .i64 (j:Int),vg])::inv s0') (λ_=>[]) (λy=>y.1<=l.length) (0,.slice none 0 0) (bQ _) (hk:=by repeat (first|exact aI.all _|exact aI.nil|(apply aI.cons;(focus (repeat (first|exact ay.here|apply ay.there)))))) (body:=?_);rintro⟨q,v9⟩ hq;dsimp only at hq⊢;have Wm:(img s (l.take q)).length=q:=by rw[EO,ig];omega
 refine go ?_;refine az rfl (λh2=>?_) (λh2=>?_)
 ·refine go ?_;intro _ _ x hx;have oQ:=hlr x (aP hx);exact cP
 have hqe:q=l.length:=vj
 subst hqe;rw[bJ]at Wm⊢;refine pV (E:=ae) (v:=v9) (xs:=img s l) λa9 hv=>?_;subst hv;refine go ?_;refine gG (λc0=>?_) (λc0=>?_)
 rotate_left
 ·have hcf:c.family=0:=by omega
  exact aq
 refine go ?_;refine gG (λc4=>?_) (λc4=>?_)
 rotate_left
 ·have hcf:c.family=4:=by omega
  exact aq
 refine go ?_;refine az rfl (λc5=>?_) (λc5=>?_)
 ·have hcf:c.family=5:=by omega
  exact aq
 refine go ?_;refine ax (amn (a:=a9) (n:=(img s l).length) (c:=(img s l).length)) (next:=λb1 _=>?_);refine go ?_;refine ax (ams (A:=ap ae (.slice a9 (img s l).length (img s l).length) (img s l)) (amo (b:=b1) (a:=a9) (xs:=img s l) vj) (λys h=>by rw[h];omega)) (next:=λy hy2=>?_);obtain⟨v2,xs2⟩:=y;have hy2:xs2=img s l:=hy2;subst hy2;dsimp only[List.cons_append,List.nil_append];refine bi (A:=ap ae v2 (bM (img s l))) (fs:=[ai ae v2 (bM (img s l))]) fQ (h:=?_);refine aT (E:=ae) (v:=v2) (xs:=bM (img s l)) vm λa12 c12 e12=>?_;subst e12;refine go ?_;intro b12;refine go ?_;refine bi (dR (b:=b12)) (h:=?_);refine go ?_;refine ax (agh (fn:=.func 72) (first:=[]) (cap:=[ptr' b12]) (F1:=[fA b12 0 [.slice a12 (bM (img s l)).length c12],ai ae (.slice a12 (bM (img s l)).length c12) (bM (img s l))]) (p:=λx=>iT x (img s l)) (va:=.slice aL L.length cL) (xs:=L) vj (λx hx=>amG vj x (by have:=hLl x hx;omega))) (next:=λ_ _=>?_);rw[show oV (λx=>iT x (img s l)) L=(i:Int)by
  have h3:=lq;unfold iM at h3;rw[if_neg (by
   unfold iR;have a0:c.family≠0:=vj
   have a4:c.family≠4:=vj
   have a5:c.family≠5:=vj
   simp[a0,a4,a5]),gy,gz G.hl]at h3
  exact h3]
 refine go ?_;refine go ?_;refine bq (ak ae) (xs:=L) (k:=i) (next:=λ_ _ l2 (y8:Value) hl2=>?_);rw[G.hl']at hl2;obtain rfl:l'=l2:=Option.some.inj hl2;refine go ?_;refine ax (ahr (a:=a9) (xs:=img s l) (ys:=l') AS) (next:=λ_ _=>?_);refine go ?_;refine ax (agf (a:=a9) (xs:=img s l) AS) (next:=λ_ _=>?_);generalize hxd:(((⟨(cn:Int),(i:Int),gvs⟩,vg),ags s l l'):CE)=x;have hnx:(p.take (jj+1)).map (clI k s)=(p.take jj).map (clI k s)++[acR x]:=by
  rw[bU hg,fD,r9,<- hxd,G.clI];rfl
 have hX:(kH++x::aeI ((p.drop (jj+1)).map (clI k s))).map acR=p.map (clI k s):=by
  rw[fD,ic,ajF,ae1];conv=>rhs;rw[<- uU (jj+1) p,fD,hnx,fU]
  rfl
 have Ar:=hy _ s0' _ _ hos hX;rw[show ceV x=[aeQ ⟨(cn:Int),(i:Int),gvs⟩ vg,.bool (ags s l l')]by rw[<- hxd];rfl,show ceF x=[ai ae vg gvs]by rw[<- hxd];rfl]at Ar;rw[fM,dX]at Ar;have hrl:(img s l).reverse.length=(img s l).length:=FN;by_cases e0:img s l=l'
 ·rw[eY e0];have htb:ags s l l'=false:=by unfold ags;simp[e0]
  rw[htb]at Ar;exact be
 ·rw[aS e0];have htb:ags s l l'=decide ((img s l).reverse=l'):=by unfold ags;simp[e0]
  rw[htb]at Ar;refine go ?_;refine bq (ak ae) (xs:=L) (k:=i) (next:=λ_ _ l3 (VB:Value) hl3=>?_);rw[G.hl']at hl3;obtain rfl:l'=l3:=Option.some.inj hl3;refine go ?_;rw[<- hrl];refine ax (ahr (a:=a9) (xs:=(img s l).reverse) (ys:=l') (by rw[hrl,hil];omega)) (next:=λ_ _=>?_);exact be
structure ajp(k:bS)(s t:List Int)(p:List Clue)(e:Int):Prop where
 nk:¬eF k->e=180
 ns:eF k->¬nN k s t->e=230
 np:eF k->nN k s t->¬Ck k p->e=190
 ok:eF k->nN k s t->Ck k p->e=0
structure akH where
 v:Value
 x:List Clue
 e:Int
theorem akI(k:bS)(t:List Int):∀(xs:List CE) (z:List Clue),oL (λ(z:List Clue) (x:CE)=>(z++[adO k t (acR x)],Out.normal)) z xs=(z++(xs.map acR).map (adO k t),Out.normal)
 |[],z=>by simp[oL]
 |x::xs,z=>by
  rw[oL];dsimp only;rw[akI k t xs,ic,ic,fU];rfl
theorem amJ{cl at_:Int}{vs:List Int}{b:Bool}(h:k.decl.aJ[cl.toNat]? =some c):adO k t (⟨cl,at_,vs⟩,b)=⟨cl,at_,if c.type=1 then img t vs else if c.type=3/\b=true then vs.reverse else vs⟩:=by
 unfold adO;dsimp only;rw[h]
theorem EG.ajm(h:EG k g):g.values.length<=8:=by
 obtain⟨c',L',a1,a2,a3,a4,a5,a6⟩:=h;rcases a6 with⟨a,b,_⟩|⟨a,b,_⟩|⟨a,_,b,_⟩<;>omega
set_option maxRecDepth 100000 in
theorem amK(hS:tC k)(hP:aga p)(hs:s.length<9223372036854775808)(ht:t.length<9223372036854775808):
 aU Tryz.prog (.func 23) [.agg ⟨lC k vh vs vr vc vu gh gc vn vl⟩,.agg ⟨[sc,st]⟩,.agg ⟨[vp]⟩] [] [] (ai aaH vp p::ai ae sc s::ai ae st t::ku k vh vs vr vc vu gh gc vn vl []) (λy:akH=>.tuple ⟨[.agg ⟨[y.v]⟩,.int .i64 y.e]⟩) (λ_=>[])
  (λy=>[mQ (y.e=0) (ai aaH y.v y.x)]) (λy=>ajp k s t p y.e/\(y.e=0->Cn (p.map (Vs k s t)) y.x)/\(y.e≠0->y.v=.slice none 0 0)):=by
 refine Mg _ (aN 23) λB w0=>?_;dsimp only[ku];refine aT (E:=ae) (v:=st) (xs:=t) vm λast cst est=>?_;subst est;refine go ?_;intro b3 b4 b5 b6;refine bi (dR (b:=b3)) (h:=?_);refine bi (dR (b:=b4)) (h:=?_);refine bi (dR (b:=b5)) (h:=?_);refine go ?_;refine ax (agQ (k:=k) (s:=s) (t:=t) hS hs ht) (next:=λe he=>?_);refine go ?_;refine az rfl (λhne=>?_) (λhz=>?_)
 ·refine go ?_;refine mg (c:=e=0) (f:=ai aaH (.slice none 0 0) ([]:List Clue)) hne ?_;exact H6 ⟨.slice none 0 0,[],e⟩ (hv:=rfl) (hp:=⟨⟨he.nk,he.ns,λa b _=>absurd (he.ok a b) hne,λa b _=>absurd (he.ok a b) hne⟩,λh=>absurd h hne,λ_=>rfl⟩)
 have hz:e=0:=gT.1 hz;subst hz;have hK:eF k:=Classical.byContradiction λh=>by have:=he.nk h;omega
 have hk:nN k s t:=Classical.byContradiction λh=>by have:=he.ns hK h;omega
 clear he;refine go ?_;refine ax (al2 (k:=k) (p:=p) hS hP) (next:=λe he=>?_);refine go ?_;refine az rfl (λhne=>?_) (λhz=>?_)
 ·refine go ?_;refine mg (c:=e=0) (f:=ai aaH (.slice none 0 0) ([]:List Clue)) hne ?_;exact H6 ⟨.slice none 0 0,[],e⟩ (hv:=rfl) (hp:=⟨⟨λh=>absurd hK h,λ_ h=>absurd hk h,λa _ b=>he.2.1 a b,λa _ b=>absurd (he.2.2 a b) hne⟩,λh=>absurd h hne,λ_=>rfl⟩)
 have hz:e=0:=gT.1 hz;subst hz;have hQ:Ck k p:=Classical.byContradiction λh=>by have:=he.2.1 hK h;omega
 clear he;have hpl:=hQ.len;have htl:=hk.ps.len;have hm:=hK.typ.lim.s1;refine go ?_;intro b8;refine go ?_;refine ax (amF (k:=k) (sc:=sc) (st:=.slice ast t.length cst) (vp:=vp)) (next:=λyl _=>?_);refine go ?_;refine gH aaH ?_;refine Rx (λv:Value=>[pt b8 (.cells [v]),ap aaH v ([]:List Clue)]) (.slice none 0 0) (h:=?_);refine ak0 (Z:=Nat) (λ(z:List Clue) (x:CE)=>(z++[adO k t (acR x)],Out.normal)) (λz=>[Mf λv:Value=>[pt b8 (.cells [v]),ap aaH v z]]) (λvs z=>z=(vs.map acR).map (adO k t)) [] _ (λx z=>[pt z (.cells [.int .i64 x.1.1.aQ,.int .i64 x.1.1.at_,x.1.2])]) rfl (λvs z x rest hz _ _=>by rw[hz,fD,fD];rfl)
  (amH (bk:=yl.2.1) (bs:=yl.2.2) (bp:=yl.1) (k:=k) (s:=s) (t:=t) (p:=p) (sc:=sc) (st:=.slice ast t.length cst) (vp:=vp) hK hk hQ)
  (by intro z x lo o B w0;dsimp only[ceV,ceF,List.cons_append,List.nil_append,List.zip_cons_cons,List.zip_nil_left,List.reverse_cons,List.reverse_nil];refine go ?_;intro b9;refine go ?_;exact Ic b9 rfl) ?_ ?_ (λ_ _=>trivial)
 ·rintro kH z ⟨⟨⟨gcl,gat,gvs⟩,wv⟩,bb⟩ rest b9 lo LL B w0 hz hX;have hxm:(⟨gcl,gat,gvs⟩,bb)∈p.map (clI k s):=by rw[<- hX];exact eG.2 ⟨((⟨gcl,gat,gvs⟩,wv),bb),vm,rfl⟩
  obtain⟨g,hgm,hge⟩:=eG.1 hxm;obtain⟨c,L,j,i,l,l',G⟩:=goG hK hk (hQ.right g hgm);have hgR:=hQ.right g hgm;rw[G.clI]at hge;injection hge with hge hbe;injection hge with e1 e2 e3;have hcl0:0<=gcl:=by rw[<- e1];exact G.aQ
  obtain⟨cn,rfl⟩:=iO hcl0;have hcc:k.decl.aJ[cn]? =some c:=by have:=G.hc;rwa [e1,gy]at this
  have akG:=(bC.1 hcc).1;subst e2;have hgv:gvs.length<=8/\(c.type=1->gvs.length=1):=by
   obtain⟨c',L',a1,a2,a3,a4,a5,a6⟩:=hgR;rw[G.hc]at a2;cases a2;rw[e3]at a6;rcases a6 with⟨a,b,_⟩|⟨a,b,_⟩|⟨a,_,b,_⟩
   ·exact⟨vj,λ_=>b⟩
   ·exact⟨vj,λh=>by omega⟩
   ·exact⟨b,λh=>absurd h a⟩
  have hgr:c.type=1->∀x∈gvs,0<=x/\x<(k.decl.symbols.length:Int):=by rw[<- e3];exact G.vals hgR
  have hcF:=amJ (k:=k) (t:=t) (cl:=(cn:Int)) (at_:=(i:Int)) (vs:=gvs) (b:=bb) (c:=c) (by rw[gy];exact hcc)
  have hzl:z.length<=512:=by
   have h2:=congrArg List.length hX;rw[cz,iE,cz]at h2;rw[hz,cz,cz];omega
  dsimp only[ceF,acR,List.cons_append,List.nil_append,List.reverse_cons,List.reverse_nil];refine Rw (h:=λv=>?_);refine go ?_;refine ax (Vk (v:=wv) (xs:=gvs) vj) (next:=λa _=>?_);refine go ?_;refine bq bP (xs:=k.decl.aJ) (k:=cn) (next:=λ_ _ c2 (_:Unit) hc2=>?_);rw[hcc]at hc2;obtain rfl:c=c2:=Option.some.inj hc2;refine go ?_;refine az rfl (λt1=>?_) (λt1=>?_)
  ·obtain⟨v0,rfl⟩:∃v0,gvs=[v0]:=by
    match gvs,hgv.2 t1 with
    |[v0],_=>exact⟨v0,rfl⟩
   have hv0:=hgr t1 v0 (bK.2 rfl);obtain⟨vn0,rfl⟩:=iO hv0.1;refine als (v:=.slice a [(vn0:Int)].length [(vn0:Int)].length) (xs:=[(vn0:Int)]) vm λbb2 f pre hf ev=>?_;obtain rfl:a=some ⟨bb2,pre.length,some f⟩:=by injection ev
   refine go ?_;refine rA (b:=bb2) (o:=pre.length+0*1) (cs:=pre++[(vn0:Int)].map (.int .i64)) (.int .i64 (vn0:Int)) (SQ (k:=0) rfl) ?_;refine go ?_;intro _ _ zt hzt;have aj9:=l6 hzt;refine go ?_;refine rz (b:=bb2) (o:=pre.length+0*1) (cs:=pre++[(vn0:Int)].map (.int .i64)) (v:=.int .i64 zt) (cs':=pre++[zt].map (.int .i64)) (SS (k:=0)) vm ?_;refine alu (b:=bb2) (f:=f) (m:=1) (pre:=pre) (xs:=[zt]) rfl hf ?_;refine bi (A:=ap ae (.slice (some ⟨bb2,pre.length,some f⟩) 1 1) [zt]) (fs:=[ai ae (.slice (some ⟨bb2,pre.length,some f⟩) 1 1) [zt]]) fQ (h:=?_);refine fK (ai ae (.slice (some ⟨bb2,pre.length,some f⟩) 1 1) (adO k t (⟨(cn:Int),(i:Int),[(vn0:Int)]⟩,bb)).values) (λw hw=>by rw[hcF,if_pos t1];show(ai ae _ [aR t (vn0:Int)]).p w;rw[aj9];exact hw (ai ae (.slice (some ⟨bb2,pre.length,some f⟩) 1 1) [zt]) vm) ?_;refine go ?_;intro b64;refine go ?_;refine fw (xs:=z) aaH (adO k t (⟨(cn:Int),(i:Int),[(vn0:Int)]⟩,bb)) (.slice (some ⟨bb2,pre.length,some f⟩) 1 1) vj (hp:=by rw[hcF];rfl) (next:=λad=>?_);refine go ?_;refine Rx (λv:Value=>[pt b8 (.cells [v]),ap aaH v (z++[adO k t (⟨(cn:Int),(i:Int),[(vn0:Int)]⟩,bb)])]) _ (h:=?_);exact jz
  refine go ?_;refine az rfl (λt3=>?_) (λt3=>?_)
  ·refine go ?_;cases bb with
   |true=>
    refine go ?_;refine ax (agf (a:=a) (xs:=gvs) vj) (next:=λ_ _=>?_);refine bi (A:=ap ae (.slice a gvs.length gvs.length) gvs.reverse) (fs:=[ai ae (.slice a gvs.length gvs.length) gvs.reverse]) fQ (h:=?_);refine fK (ai ae (.slice a gvs.length gvs.length) (adO k t (⟨(cn:Int),(i:Int),gvs⟩,true)).values) (λw hw=>by rw[hcF,if_neg t1,if_pos ⟨t3,rfl⟩];exact hw (ai ae (.slice a gvs.length gvs.length) gvs.reverse) vm) ?_;refine go ?_;intro b64;refine go ?_;refine fw (xs:=z) aaH (adO k t (⟨(cn:Int),(i:Int),gvs⟩,true)) (.slice a gvs.length gvs.length) vj (hp:=by rw[hcF];rfl) (next:=λad=>?_);refine go ?_;refine Rx (λv:Value=>[pt b8 (.cells [v]),ap aaH v (z++[adO k t (⟨(cn:Int),(i:Int),gvs⟩,true)])]) _ (h:=?_);exact jz
   |false=>
    refine bi (A:=ap ae (.slice a gvs.length gvs.length) gvs) (fs:=[ai ae (.slice a gvs.length gvs.length) gvs]) fQ (h:=?_);refine fK (ai ae (.slice a gvs.length gvs.length) (adO k t (⟨(cn:Int),(i:Int),gvs⟩,false)).values) (λw hw=>by rw[hcF,if_neg t1,if_neg vm];exact hw (ai ae (.slice a gvs.length gvs.length) gvs) vm) ?_;refine go ?_;intro b64;refine go ?_;refine fw (xs:=z) aaH (adO k t (⟨(cn:Int),(i:Int),gvs⟩,false)) (.slice a gvs.length gvs.length) vj (hp:=by rw[hcF];rfl) (next:=λad=>?_);refine go ?_;refine Rx (λv:Value=>[pt b8 (.cells [v]),ap aaH v (z++[adO k t (⟨(cn:Int),(i:Int),gvs⟩,false)])]) _ (h:=?_);exact jz
  ·refine bi (A:=ap ae (.slice a gvs.length gvs.length) gvs) (fs:=[ai ae (.slice a gvs.length gvs.length) gvs]) fQ (h:=?_);refine fK (ai ae (.slice a gvs.length gvs.length) (adO k t (⟨(cn:Int),(i:Int),gvs⟩,bb)).values) (λw hw=>by rw[hcF,if_neg t1,if_neg (λq=>t3 (by have:=q.1;omega))];exact hw (ai ae (.slice a gvs.length gvs.length) gvs) vm) ?_;refine go ?_;intro b64;refine go ?_;refine fw (xs:=z) aaH (adO k t (⟨(cn:Int),(i:Int),gvs⟩,bb)) (.slice a gvs.length gvs.length) vj (hp:=by rw[hcF];rfl) (next:=λad=>?_);refine go ?_;refine Rx (λv:Value=>[pt b8 (.cells [v]),ap aaH v (z++[adO k t (⟨(cn:Int),(i:Int),gvs⟩,bb)])]) _ (h:=?_);exact jz
 ·intro r xs hX;rw[akI,hX];dsimp only[List.cons_append,List.nil_append];have hmap:(p.map (clI k s)).map (adO k t)=p.map (Vs k s t):=by
   rw[xS];exact AY λg _=>amE k s t g
  rw[hmap];refine Rw (h:=λv=>?_);refine go ?_;refine bi (A:=ap aaH v (p.map (Vs k s t))) (fs:=[ai aaH v (p.map (Vs k s t))]) fQ (h:=?_);refine ax (amh (v:=v) (xs:=p.map (Vs k s t)) (by rw[cz];omega) (λx hx=>by
   exact s7)) (next:=λy hy=>?_)
  obtain⟨v2,ys⟩:=y;dsimp only[List.cons_append,List.nil_append]at hy⊢;refine go ?_;refine lu (c:=(0:Int)=0) (f:=ai aaH v2 ys) vm ?_;exact H6 ⟨v2,ys,0⟩ (hv:=rfl) (hp:=⟨⟨λh=>absurd hK h,λ_ h=>absurd hk h,λ_ _ h=>absurd hQ h,λ_ _ _=>rfl⟩,λ_=>hy,λh=>absurd rfl h⟩)
