/- Part. -/
import Derived.Test.YtoilpafpgndilaaGreatLibAEF
import Derived.Test.YtoilpafpgndilaaGreatLibAFF
import Derived.Test.YtoilpafpgndilaaGreatSaneAF
import Derived.Test.YtoilpafpgndilaaGreatLibABF
set_option linter.all false
set_option maxRecDepth 10000
set_option maxHeartbeats 4000000
namespace Go.Proofs.YtoilpafpgndilaaGreat
open Tryz (prog)
open Go.Ideal Kd Canon
def faL(fs:kI aO):OA:=⟨λw S=>S=[]/\∀f∈fs,f.p w,λa h ⟨h1,h2⟩=>⟨h1,λf hf=>f.mono a (h2 f hf)⟩⟩
variable{B:kI Nat}{w0:Wd}{kl:kI OA}{F:kI aO}{Q:IH->Prop}
def amG(fs:kI aO)(hf:∀w:Wd,(∀f∈F,f.p w)->∀f∈fs,f.p w)(h:R Q B w0 (faL fs::kl) F):R Q B w0 kl F:=λw s=>by
 obtain⟨S,h1,h2,h3⟩:=s.own;exact h w ⟨s.agree,s.le,s.af9,⟨S,⟨[],S,⟨rfl,hf w s.facts⟩,h1,rfl⟩,h2,h3⟩,s.facts⟩
def aoH{kl':kI OA}(fs:kI aO)(hk:az (faL fs) kl kl':=by repeat (first|with_reducible exact az.here|with_reducible apply az.there))(h:R Q B w0 kl' (fs++F)):R Q B w0 kl F:=λw s=>by
 obtain⟨S,⟨S1,S2,⟨q1,q0⟩,q2,e⟩,h2,h3⟩:=(s.gq hk).own;subst q1;exact h w ⟨s.agree,s.le,s.af9,⟨S,by rw[e];exact q2,h2,h3⟩,λf hf=>by
  rcases dX.1 hf with hf|hf
  .exact q0 f hf
  .exact s.facts f hf⟩
structure CaR where
 e:Int
 p:List Clue
 s:List Int
 t:List Int
structure CaI where
 vp:Value
 vs:Value
 vt:Value
 c:CaR
abbrev caV(y:CaI):vI:=.agg ⟨[y.vp,y.vs,y.vt,iV y.c.e]⟩
abbrev caF(y:CaI):kI aO:=[ai bO y.vp y.c.p,ai ae y.vs y.c.s,ai ae y.vt y.c.t]
def caE(e:Int):CaR:=⟨e,[],[],[]⟩
def caN(e:Int):CaI:=⟨.slice none 0 0,.slice none 0 0,.slice none 0 0,caE e⟩
def arH(e:Int)(w:Wd):∀f∈caF (caN e),f.p w:=by
 intro f hf;simp only[caF,caN,caE,dx,Kj,or_false]at hf;rcases hf with rfl|rfl|rfl<;>exact .inl ⟨rfl,none,0,rfl,trivial⟩
def ald(a b:CaR):Bool:=if decide (a.e≠0)≠decide (b.e≠0)then decide (a.e≠0)else decide (qG a.p b.p<0)
def aio(b:Bool×CaI)(x:CaI):Bool×CaI:=(false,if b.1=true\/ald x.c b.2.c=true then x else b.2)
def ale(b:Bool×CaI)(x:CaI):(Bool×CaI)×Out:=(aio b x,Out.normal)
def aoI:∀(xs:kI CaI) (b:Bool×CaI),pq ale b xs=(xs.foldl aio b,Out.normal)
 |[],b=>rfl
 |x::xs,b=>by
  rw[pq];show pq ale (aio b x) xs=_;rw[aoI xs,wO]
def aoJ:∀(vs:kI CaI) (b:Bool×CaI),b.1=false->(vs.foldl aio b).1=false/\((vs.foldl aio b).2=b.2\/(vs.foldl aio b).2∈vs)
 |[],b,h=>⟨h,.inl rfl⟩
 |x::vs,b,h=>by
  rw[wO];obtain⟨h1,h2⟩:=aoJ vs (aio b x) rfl;refine⟨h1,?_⟩;rcases h2 with h2|h2
  .rw[h2];show(if _ then x else _)=_\/(if _ then x else _)∈_;split
   .exact .inr (cB ..)
   .exact .inl rfl
  .exact .inr (cO _ h2)
def arI:∀(vs:kI CaI),vs≠[]->(vs.foldl aio (true,caN 0)).1=false/\(vs.foldl aio (true,caN 0)).2∈vs
 |[],h=>absurd rfl h
 |x::vs,_=>by
  rw[wO];have hp:aio (true,caN 0) x=(false,x):=by unfold aio;rw[if_pos (.inl rfl)]
  rw[hp];obtain⟨h1,h2⟩:=aoJ vs (false,x) rfl;refine⟨h1,?_⟩;rcases h2 with h2|h2
  .rw[h2];exact cB ..
  .exact cO _ h2
def alr(c:CaR):Prop:=c.p.length<=1000000/\short c.p
def anu(e:Int):alr (caE e):=⟨bR _,λg hg=>by cases hg⟩
def arJ{a b:CaI}(ha:alr a.c)(hb:alr b.c):fC prog 45 [caV a,caV b] (caF a++caF b) (λ_:Unit=>.bool (ald a.c b.c)) (λ_=>True):=by
 refine gB 45 λB w0=>?_;obtain⟨vp,vs,vt,e,p,s,t⟩:=a;obtain⟨Xl,vs2,vt2,e2,p2,s2,t2⟩:=b;obtain⟨ha1,ha2⟩:=ha;obtain⟨hb1,hb2⟩:=hb;dsimp only[caV,caF,List.cons_append,List.nil_append]at ha1 ha2 hb1 hb2⊢;refine go ?_;intro b2 b3;refine go ?_;refine aA (p:=decide (e≠0)≠decide (e2≠0)) (by by_cases h1:e=0<;>by_cases h2:e2=0<;>simp[h1,h2]<;>rfl) (λh=>?_) (λh=>?_)
 .refine acM ?_;unfold ald;rw[if_pos h];rfl
 .refine gC (ajr (va:=vp) (vb:=Xl) (xs:=p) (ys:=p2) ha1 hb1 ha2 hb2) λ_ _=>?_;refine acM ?_;unfold ald;rw[if_neg h];rfl
def arK{fn:Fn}{first cap:kI vI}{F1:kI aO}{X:kI CaI->Prop}(hit:al1 prog (λy=>[caV y]) caF fn first cap F1 X)(hX:∀xs,X xs->∀x∈xs,alr x.c):
 bA prog (.func 43) [.func fn ⟨first⟩ ⟨cap⟩,.func (.func 45) ⟨[]⟩ ⟨[]⟩] [] [] F1 caV (λ_=>[]) caF (λy=>∃xs,X xs/\y=(xs.foldl aio (true,caN 0)).2):=by
 refine MM _ (aP 43) λB w0=>?_;refine go ?_;intro b3 b4 b5;refine gP b3 ?_;refine amG (caF (caN 0)) (λw _=>arH 0 w) ?_;refine go ?_;refine anQ (Z:=Nat) ale (λb=>[pt b4 (.cells [b.2.vp,b.2.vs,b.2.vt,iV b.2.c.e]),pt b5 (.cells [.bool b.1]),faL (caF b.2)]) (λvs b=>b=vs.foldl aio (true,caN 0)) (true,caN 0) _ (λx z=>[pt z (.cells [x.vp,x.vs,x.vt,iV x.c.e])]) rfl (λvs b x rest hb _ _=>by rw[hb,DI];rfl) hit
  (by intro z x lo o B w0;dsimp only[caV,caF,List.cons_append,List.nil_append,List.zip_cons_cons,List.zip_nil_left,List.reverse_cons,List.reverse_nil];refine go ?_;intro b9;refine go ?_;exact IU b9 rfl) ?_ ?_ (λ_ _=>trivial) (hk:=As)
 .rintro vs ⟨fi,y⟩ x rest b6 lo LL B w0 hy hXs;have hx:=hX _ hXs x An;dsimp only[caF,List.cons_append,List.nil_append];refine aoH (caF y) (h:=?_);cases fi with
  |true=>
   dsimp only[caF,List.cons_append,List.nil_append];refine go ?_;refine amG (caF x) (λw hw f hf=>hw f HA) ?_;have hp:ale (true,y) x=((false,x),Out.normal):=by
    unfold ale;rw[show aio (true,y) x=(false,x)by unfold aio;rw[if_pos (.inl rfl)]]
   exact eI
  |false=>
   have hne:vs≠[]:=λh=>by subst h;cases hy
   have hym:y∈vs:=by have:=(arI vs hne).2;rw[<- hy]at this;exact this
   have hyo:=hX _ hXs y (je _ hym);dsimp only[caF,List.cons_append,List.nil_append];refine gC (arJ (a:=x) (b:=y) hx hyo) λ_ _=>?_;cases hl:ald x.c y.c with
   |true=>
    refine go ?_;refine amG (caF x) (λw hw f hf=>hw f HA) ?_;have hp:ale (false,y) x=((false,x),Out.normal):=by
     unfold ale;rw[show aio (false,y) x=(false,x)by unfold aio;rw[if_pos (.inr hl)]]
    exact eI
   |false=>
    refine go ?_;refine amG (caF y) (λw hw f hf=>hw f HA) ?_;have hp:ale (false,y) x=((false,y),Out.normal):=by
     unfold ale;rw[show aio (false,y) x=(false,y)by unfold aio;rw[if_neg];rw[hl];simp]
    exact eI
 .intro r xs hXs;rw[aoI];generalize hz:xs.foldl aio (true,caN 0)=z;obtain⟨fi,y⟩:=z;dsimp only[List.cons_append,List.nil_append];refine aoH (caF y) (h:=?_);dsimp only[caF,List.cons_append,List.nil_append];refine go ?_;exact IJ y (hv:=rfl) (hp:=⟨xs,hXs,by rw[hz]⟩)
noncomputable def akM(xs:kI Clue):kI Clue:=open Classical in if h:∃y,l7 xs y then Classical.choose h else[]
def anv{xs y:kI Clue}(h:l7 xs y):y=akM xs:=by
 unfold akM;rw[dif_pos ⟨y,h⟩];exact h.uniq (amO (⟨y,h⟩:∃y,l7 xs y))
def idI(n:Nat):kI Int:=(List.range n).map Int.ofNat
def alf(n:Nat):(idI n).length=n:=by unfold idI;rw[bY,uu]
def anw(n:Nat):idI (n+1)=idI n++[(n:Int)]:=by unfold idI;rw[Gm,fP];rfl
noncomputable def akl(k:bD)(cl:kI Int)(p:kI Clue)(s:kI Int):CaR:=
 ⟨0,bK (aK k) (dz (aK k) cl (akM (p.map (l8 k s (idI cl.length))))) (akM (p.map (l8 k s (idI cl.length)))),s,dz (aK k) cl (akM (p.map (l8 k s (idI cl.length))))⟩
noncomputable def air(k:bD)(cl:kI Int)(p:kI Clue):kI (kI Int)->kI CaR
 |[]=>[]
 |s::L=>open Classical in if lc k s (idI cl.length)then akl k cl p s::air k cl p L else[caE 230]
def amI{k:bD}{cl:kI Int}{p:kI Clue}:∀(A B:kI (kI Int)),(∀s∈A,lc k s (idI cl.length))->air k cl p (A++B)=A.map (akl k cl p)++air k cl p B
 |[],B,_=>rfl
 |a::A,B,h=>by
  rw[fV,air,if_pos (h a (cB ..)),amI A B (λs hs=>h s (cO _ hs))];rfl
variable{k:bD}{p:kI Clue}{cl s:kI Int}
def aoL{B:kI (kI Int)}(h:¬lc k s (idI cl.length)):air k cl p (s::B)=[caE 230]:=by rw[air,if_neg h]
def amd(xs:kI CaR):kI CaI:=xs.map λc=>⟨.slice none 0 0,.slice none 0 0,.slice none 0 0,c⟩
def arM(xs:kI CaR):(amd xs).map (λy=>y.c)=xs:=by unfold amd;rw[wR];exact alU xs
def arN{bm n:Nat}:rH (pt bm (.cells ((idI n).map iV))) [ai ae (.slice (some ⟨bm,0,some 0⟩) n n) (idI n)]:=by
 have:=uR (b:=bm) (f:=0) (c:=n) (xs:=idI n) (hc:=by rw[alf];exact bT _);rw[alf]at this;exact this
variable{L:kI (kI Int)}{vh vs vr vc vu gh gc vn vl vp jR vL:vI}
def arO{bg bk bp:Nat}(hS:nZ k)(hP:wK p)(hK:dH k)(hQ:age k p)(hC:akC k.decl.symbols.length cl)
 (hLl:L.length<2^63) (hLs:∀s∈L,s.length<2^63):
 al1 prog (λy=>[caV y]) caF (.func 82) [] [ptr' bg,ptr' bk,ptr' bp] (gY bg 0 [vL,jR]::gY bk 0 (kZ k vh vs vr vc vu gh gc vn vl)::gY bp 0 [vp]::ai (ak ae) vL L::ai ae jR cl::ai bO vp p::j6 k vh vs vr vc vu gh gc vn vl []) (λxs=>xs.map (λy=>y.c)=air k cl p L):=by
 intro S inv ok step s0 Fb y1 y2 F' h0 hok hy;dsimp only[j6,List.cons_append,List.nil_append];have hcl:=hC.len;have hm:=hK.typ.lim.s1;refine gB 82 λB w0=>?_;refine gF ae jR cl λacl Xb F4=>?_;subst F4;refine gF (ak ae) vL L λaL cL eL=>?_;subst eL;refine go ?_;refine IK cl.length ⟨z7,z7,z7⟩ λbm=>?_;rw[ahb];refine go ?_;refine aU (λi=>cl.length - i) (λi:Nat=>[(19,iV (i:Int))]) (λi=>[pt bm (.cells ((sw (idI i) cl.length).map iV))]) (λ_=>[]) (λi=>i<=cl.length) 0 (bR _) (hk:=As) (body:=?_);intro i hi;refine gIf ?_ ?_<;>intro h1
 .refine go ?_;refine qI (b:=bm) (o:=0+i*1) (cs:=(sw (idI i) cl.length).map iV) (v:=iV (i:Int)) (cs':=(sw (idI (i+1)) cl.length).map iV) (by rw[fo,uw,<- DD,ag8 (alf i).symm z7,anw]) (by rw[bY,ag7 HB];omega) ?_;refine go ?_;exact aN (i+1) z7 z7
 obtain rfl:i=cl.length:=z7
 rw[ag9 (alf _)];refine gZ (arN (bm:=bm) (n:=cl.length)) ?_;refine go ?_;refine aU (λy:Nat×kI CaI×S=>L.length - y.1) (λy=>[(30,iV (y.1:Int))]) (λy=>inv y.2.2) (λ_=>[]) (λy=>y.1<=L.length/\ok y.2.1 y.2.2/\y.2.1.map (λy=>y.c)=(L.take y.1).map (akl k cl p)/\(∀s∈L.take y.1,lc k s (idI cl.length))/\∀rest,mD step s0 (y.2.1++rest)=mD step y.2.2 rest) (0,[],s0) ⟨bR _,h0,rfl,(λs hs=>by simp at hs),λ_=>rfl⟩ (body:=?_);rintro⟨j,kU,s0'⟩ ⟨hj,hos,ajb,hkp,hrun⟩;dsimp only at hj hos ajb hkp hrun⊢;have hpre:air k cl p L=(L.take j).map (akl k cl p)++air k cl p (L.drop j):=by rw[<- amI _ _ hkp,uq]
 refine gIf ?_ ?_<;>intro h1
 rotate_left
 .have hr2:=hrun [];rw[gU]at hr2;refine go ?_;exact gQ kU (by rw[ajb,hpre,akS z7,air,gU]) (hk:=by rw[hr2];exact aI.all _)
 refine gX (ak ae) (xs:=L) λ_ _ s (vs1:vI) hs=>?_;refine gF ae vs1 s λkY cs1 es1=>?_;subst es1;have hsm:=aZ hs;have hdr:L.drop j=s::L.drop (j+1):=by
  obtain⟨h2,h3⟩:=bq.1 hs;rw[<- h3];exact oU h2
 refine gC (aqW (k:=k) (s:=s) (t:=idI cl.length) (p:=p) (sc:=.slice kY s.length cs1) (vp:=vp) hS hP (hLs s hsm) HB) λy hy2=>?_;obtain⟨v,x,e⟩:=y;dsimp only at hy2⊢;refine go ?_;intro b9;refine gIf (λhne=>?_) (λhz=>?_)
 .have hnk:¬lc k s (idI cl.length):=λh=>hne (hy2.1.ok hK h hQ);obtain rfl:e=230:=hy2.1.ns hK hnk;have hX:(kU++caN 230::[]).map (λy=>y.c)=air k cl p L:=by
   rw[hpre,hdr,aoL hnk,fP,ajb];rfl
  have Bi:=hy kU s0' (caN 230) [] hos hX;dsimp only at Bi;rw[show caV (caN 230)=.agg ⟨[.slice none 0 0,.slice none 0 0,.slice none 0 0,iV 230]⟩from rfl,show caF (caN 230)=[ai bO (.slice none 0 0) ([]:kI Clue),ai ae (.slice none 0 0) ([]:kI Int),ai ae (.slice none 0 0) ([]:kI Int)]from rfl]at Bi;rw[fV,fV,fV,dY]at Bi;refine go ?_;refine eF (ai bO (.slice none 0 0) ([]:kI Clue)) (λw _=>.inl ⟨rfl,none,0,rfl,trivial⟩) ?_;refine eF (ai ae (.slice none 0 0) ([]:kI Int)) (λw _=>.inl ⟨rfl,none,0,rfl,trivial⟩) ?_;refine ay Bi (next:=λ_ _=>?_);have hr:=hrun [caN 230];have hr2:mD step s0' [caN 230]=(step s0' (caN 230)).1:=by
   rw[mD];cases (step s0' (caN 230))with
   |mk a b=>cases b<;>rfl
  rw[hr2]at hr;refine go ?_;exact gQ (kU++[caN 230]) hX (hk:=Kg)
 have hz:e=0:=ic.1 hz;subst hz;have hk:lc k s (idI cl.length):=Classical.byContradiction λh=>by have:=hy2.1.ns hK h;omega
 have hx:=hy2.2.1 rfl;obtain rfl:=anv hx;have O1:=ahk hK hk hQ hx;generalize hxe:akM (p.map (l8 k s (idI cl.length)))=x at *;refine eF (ai bO v x) (λw hw=>hw (jr ((0:Int)=0) (ai bO v x)) An rfl) ?_;refine gC (ajc (k:=k) (cl:=cl) (p:=x) (vp:=v) hK O1 hC.len) λyr _=>?_;obtain⟨v11,v12⟩:=yr;dsimp only;refine gF ae v12 (dz (aK k) cl x) λa12 c12 e12=>?_;subst e12;refine go ?_;intro b11;refine go ?_;have hcc:akl k cl p s=⟨0,bK (aK k) (dz (aK k) cl x) x,s,dz (aK k) cl x⟩:=by unfold akl;rw[hxe]
 have ame:∀s∈L.take (j+1),lc k s (idI cl.length):=by
  exact rI
 have hnx:∀y:CaI,y.c=akl k cl p s->(kU++[y]).map (λy=>y.c)=(L.take (j+1)).map (akl k cl p):=λy hy=>by
  rw[bZ hs,fP,fP,ajb,sQ,sQ,hy]
 generalize Zp:(⟨v11,(.slice kY s.length cs1),(.slice a12 (dz (aK k) cl x).length c12),⟨0,bK (aK k) (dz (aK k) cl x) x,s,dz (aK k) cl x⟩⟩:CaI)=yy;have hyc:yy.c=akl k cl p s:=by rw[<- Zp,hcc]
 have hX:(kU++yy::amd (air k cl p (L.drop (j+1)))).map (λy=>y.c)=air k cl p L:=by
  rw[hpre,hdr,fP,agO,arM,ajb,hyc,air,if_pos hk]
 have Bi:=hy kU s0' yy _ hos hX;dsimp only at Bi;rw[show caV yy=.agg ⟨[v11,(.slice kY s.length cs1),(.slice a12 (dz (aK k) cl x).length c12),iV 0]⟩by rw[<- Zp],show caF yy=[ai bO v11 (bK (aK k) (dz (aK k) cl x) x),ai ae (.slice kY s.length cs1) s,ai ae (.slice a12 (dz (aK k) cl x).length c12) (dz (aK k) cl x)]by rw[<- Zp]]at Bi;rw[fV,fV,fV,dY]at Bi;refine ay Bi (next:=λ_ _=>?_);cases hst:(step s0' yy).2 with
 |true=>
  have hs1:step s0' yy=((step s0' yy).1,true):=Prod.ext rfl hst;refine go ?_;refine aN (j+1,kU++[yy],(step s0' yy).1) E4 ⟨by show j+1<=_;omega,hok _ s0' _ _ hos hX hst,hnx yy hyc,ame,λrest=>?_⟩;show mD step s0 (kU++[yy]++rest)=_;rw[List.append_assoc,hrun];show mD step s0' (yy::rest)=_;rw[mD,hs1]
 |false=>
  have hs1:step s0' yy=((step s0' yy).1,false):=Prod.ext rfl hst;have hr:=hrun (yy::amd (air k cl p (L.drop (j+1))));rw[mD,hs1]at hr;dsimp only at hr;refine go ?_;exact gQ (kU++yy::amd (air k cl p (L.drop (j+1)))) hX (hk:=Kg)
def Dv.same{e e2:Int}(h:Dv k p cl e)(h2:Dv k p cl e2):e=e2:=by
 by_cases hK:dH k
 .by_cases hQ:age k p
  .by_cases hC:akC k.decl.symbols.length cl
   .rw[h.ok hK hQ hC,h2.ok hK hQ hC]
   .rw[h.nc hK hQ hC,h2.nc hK hQ hC]
  .rw[h.np hK hQ,h2.np hK hQ]
 .rw[h.nk hK,h2.nk hK]
def F7(h:age k p){t:kI Int}:short (bK (aK k) t p):=λg hg=>by
 obtain⟨a,ha,rfl⟩:=eT.1 hg;obtain⟨c',L',a1,a2,a3,a4,a5,a6⟩:=h.right a ha;have hl:a.values.length<=8:=by rcases a6 with⟨_,b,_⟩|⟨_,b,_⟩|⟨_,_,b,_⟩<;>omega
 unfold iQ;dsimp only;split
 .rw[NG];omega
 .omega
def F8(sy:Int->Bool)(t:kI Int)(p:kI Clue):(bK sy t p).length=p.length:=by unfold bK;rw[bY]
def akI(b:Bool×CaR)(x:CaR):Bool×CaR:=(false,if b.1=true\/ald x b.2=true then x else b.2)
def aoM:∀(xs:kI CaI) (b:Bool×CaI),(xs.foldl aio b).2.c=((xs.map (λy=>y.c)).foldl akI (b.1,b.2.c)).2
 |[],b=>rfl
 |x::xs,b=>by
  rw[wO,agO,wO,aoM xs];have:akI (b.1,b.2.c) x.c=((aio b x).1,(aio b x).2.c):=by
   unfold akI aio;dsimp only;split<;>rfl
  rw[this]
noncomputable def alS(k:bD)(cl:kI Int)(p:kI Clue)(L:kI (kI Int)):CaR:=((air k cl p L).foldl akI (true,caE 0)).2
structure alE(k:bD)(cl:List Int)(p:List Clue)(L:List (List Int))(c:CaR):Prop where
 nk:¬dH k->c=caE 180
 np:dH k->¬age k p->c=caE 190
 nc:dH k->age k p->¬(akC k.decl.symbols.length cl/\L≠[])->c=caE 1
 ok:dH k->age k p->akC k.decl.symbols.length cl/\L≠[]->c=alS k cl p L
def alE.same{a b:CaR}(h:alE k cl p L a)(h2:alE k cl p L b):a=b:=by
 by_cases hK:dH k
 .by_cases hQ:age k p
  .by_cases hC:akC k.decl.symbols.length cl/\L≠[]
   .rw[h.ok hK hQ hC,h2.ok hK hQ hC]
   .rw[h.nc hK hQ hC,h2.nc hK hQ hC]
  .rw[h.np hK hQ,h2.np hK hQ]
 .rw[h.nk hK,h2.nk hK]
def aoN(xs:kI Clue):l7 xs (akM xs)\/akM xs=[]:=by
 by_cases h:∃y,l7 xs y
 .obtain⟨y,hy⟩:=h;exact .inl (anv hy▸hy)
 .right;unfold akM;rw[dif_neg h]
def anx(hK:dH k)(hQ:age k p)(hk:lc k s (idI cl.length)):alr (akl k cl p s):=by
 unfold akl;rcases aoN (p.map (l8 k s (idI cl.length)))with h|h
 .have O1:=ahk hK hk hQ h;have:=O1.len;exact⟨by dsimp only;rw[F8];omega,F7 O1⟩
 .rw[h];exact⟨bR _,λg hg=>by cases hg⟩
def aoO{k:bD}{cl:kI Int}{p:kI Clue}(hK:dH k)(hQ:age k p):∀(L:kI (kI Int)),∀c∈air k cl p L,alr c
 |[],c,hc=>by cases hc
 |s::L,c,hc=>by
  rw[air]at hc;split at hc
  .rename_i h;rcases dx.1 hc with rfl|hc
   .exact anx hK hQ h
   .exact aoO hK hQ L c hc
  .obtain rfl:=bM.1 hc;exact anu _
def arP:
 bA prog (.func 44) [.agg ⟨kZ k vh vs vr vc vu gh gc vn vl⟩,.agg ⟨[vL,jR]⟩,.agg ⟨[vp]⟩] [] [] [] (λy:Nat×Nat×Nat=>.func (.func 82) #[] #[ptr' y.1,ptr' y.2.1,ptr' y.2.2]) (λ_=>[])
  (λy=>[gY y.1 0 [vL,jR],gY y.2.1 0 (kZ k vh vs vr vc vu gh gc vn vl),gY y.2.2 0 [vp]]) (λ_=>True):=by
 refine gB 44 λB w0=>?_;refine go ?_;intro b3 b4 b5;refine gP b3 ?_;refine gP b4 ?_;refine gP b5 ?_;refine go ?_;exact gQ (b4,b3,b5) trivial
def arQ(hS:nZ k)(hP:wK p)(hl:cl.length<2^63)(hLl:L.length<2^63)(hLs:∀s∈L,s.length<2^63):
 bA prog (.func 20) [.agg ⟨kZ k vh vs vr vc vu gh gc vn vl⟩,.agg ⟨[vL,jR]⟩,.agg ⟨[vp]⟩] [] [] (ai (ak ae) vL L::ai ae jR cl::ai bO vp p::j6 k vh vs vr vc vu gh gc vn vl [])
  (λy:CaI=>.tuple ⟨[.agg ⟨[y.vp]⟩,.agg ⟨[y.vs,y.vt]⟩,iV y.c.e]⟩) (λ_=>[]) caF (λy=>alE k cl p L y.c):=by
 refine gB 20 λB w0=>?_;dsimp only[j6];refine gF fF vs k.decl.symbols λkY cs1 es1=>?_;subst es1;refine gF (ak ae) vL L λaL cL eL=>?_;subst eL;refine go ?_;intro b3 b4 b5 b6 b7;refine gC (ag2 (k:=k) (p:=p) (vh:=vh) (vs:=.slice kY k.decl.symbols.length cs1) hS hP) λe he=>?_;refine gIf (λhne=>?_) (λhz=>?_)
 .exact c9
 have hz:e=0:=ic.1 hz;subst hz;have hK:dH k:=Classical.byContradiction λh=>by have:=he.1 h;omega
 have hQ:age k p:=Classical.byContradiction λh=>by have:=he.2.1 hK h;omega
 clear he;refine gC (ai3 (v:=jR) (xs:=cl) (n:=k.decl.symbols.length) hl) λb hb=>?_;cases b with
 |false=>
  exact cW
 |true=>
 have hC:=hb.1 rfl;refine gIf ?_ ?_<;>intro h0
 .exact dg
 have hL0:L≠[]:=λh=>h0 (by rw[h];rfl);refine gC (arP (k:=k) (vh:=vh) (vs:=.slice kY k.decl.symbols.length cs1) (jR:=jR) (vL:=.slice aL L.length cL)) λyl _=>?_;obtain⟨bg,bk,bp⟩:=yl;dsimp only[List.cons_append,List.nil_append];refine gC (arK (arO (bg:=bg) (bk:=bk) (bp:=bp) (k:=k) (cl:=cl) (p:=p) (L:=L) (vh:=vh) (vs:=.slice kY k.decl.symbols.length cs1) (jR:=jR) (vL:=.slice aL L.length cL) hS hP hK hQ hC hLl hLs) (λxs hxs x hx=>aoO hK hQ L x.c (by rw[<- hxs];exact Kn hx))) λy hy=>?_;obtain⟨Xl,vs2,vt2,c⟩:=y;obtain⟨xs,hxs,hyc⟩:=hy;have arR:c=alS k cl p L:=by
  have:=aoM xs (true,caN 0);rw[<- hyc,hxs]at this;exact this
 obtain⟨e,q,s,t⟩:=c;dsimp only[caV,caF,List.cons_append,List.nil_append];refine gF ae vs2 s λas2 cs2 es2=>?_;subst es2;refine gF ae vt2 t λat2 ct2 et2=>?_;subst et2;refine go ?_;intro b10;refine go ?_;exact gQ ⟨Xl,.slice as2 s.length cs2,.slice at2 t.length ct2,⟨e,q,s,t⟩⟩ ⟨λh=>absurd hK h,λ_ h=>absurd hQ h,λ_ _ h=>absurd ⟨hC,hL0⟩ h,λ_ _ _=>arR⟩
def arS(hn:k.grid.cells.length<=4096)(hm:k.decl.symbols.length<=4096):
 bA prog (.func 46) [.agg ⟨kZ k vh vs vr vc vu gh gc vn vl⟩] [] [] (j6 k vh vs vr vc vu gh gc vn vl []) (λy:vI×vI=>.agg ⟨[y.1,y.2]⟩) (λ_=>[])
  (λy=>[ai ae y.1 (idI k.grid.cells.length),ai ae y.2 (idI k.decl.symbols.length)]) (λ_=>True):=by
 refine gB 46 λB w0=>?_;dsimp only[j6];refine gF fF vs k.decl.symbols λkY cs1 es1=>?_;subst es1;refine gF ae gc k.grid.cells λac1 cc1 ec1=>?_;subst ec1;refine go ?_;intro b1 b2 b3;refine af5 ae ?_;refine aU (λy:Nat×vI=>k.grid.cells.length - y.1) (λy=>[(4,iV (y.1:Int))]) (λy=>[ap ae y.2 (idI y.1),pt b3 (.cells [y.2,.slice none 0 0])]) (λ_=>[]) (λy=>y.1<=k.grid.cells.length) (0,.slice none 0 0) (bR _) (hk:=As) (body:=?_);rintro⟨i,v⟩ hi;dsimp only at hi⊢;have hil:=alf i;refine gIf ?_ ?_<;>intro h1
 .refine go ?_;intro b50;refine fB (xs:=idI i) ae (i:Int) () z7 (next:=λad=>?_);rw[<- anw];refine go ?_;exact aN (i+1,.slice ad ((idI i).length+1) ((idI i).length+1)) (by show k.grid.cells.length - (i+1)<k.grid.cells.length - i;omega) AK
 obtain rfl:i=k.grid.cells.length:=z7
 refine aie (A:=ap ae v (idI k.grid.cells.length)) (fs:=[ai ae v (idI k.grid.cells.length)]) gz (h:=?_);refine gF ae v (idI k.grid.cells.length) λav cv ev=>?_;subst ev;refine go ?_;refine af5 ae ?_;refine aU (λy:Nat×vI=>k.decl.symbols.length - y.1) (λy=>[(5,iV (y.1:Int))]) (λy=>[ap ae y.2 (idI y.1),pt b3 (.cells [.slice av (idI k.grid.cells.length).length cv,y.2])]) (λ_=>[]) (λy=>y.1<=k.decl.symbols.length) (0,.slice none 0 0) (bR _) (hk:=As) (body:=?_);rintro⟨i,v⟩ hi;dsimp only at hi⊢;have hil:=alf i;refine gIf ?_ ?_<;>intro h1
 .refine go ?_;intro b50;refine fB (xs:=idI i) ae (i:Int) () z7 (next:=λad=>?_);rw[<- anw];refine go ?_;exact aN (i+1,.slice ad ((idI i).length+1) ((idI i).length+1)) (by show k.decl.symbols.length - (i+1)<k.decl.symbols.length - i;omega) AK
 obtain rfl:i=k.decl.symbols.length:=z7
 refine aie (A:=ap ae v (idI k.decl.symbols.length)) (fs:=[ai ae v (idI k.decl.symbols.length)]) gz (h:=?_);refine gF ae v (idI k.decl.symbols.length) λav2 cv2 ev2=>?_;subst ev2;refine go ?_;exact gQ (.slice av (idI k.grid.cells.length).length cv,.slice av2 (idI k.decl.symbols.length).length cv2) trivial
def arX(h:∀s∈L,lc k s (idI cl.length)):alS k cl p L=((L.map (akl k cl p)).foldl akI (true,caE 0)).2:=by
 have:=amI (k:=k) (cl:=cl) (p:=p) L [] h;rw[gU,air,gU]at this;unfold alS;rw[this]
def arY{A B:kI (kI Int)}{b:Bool}{c:CaR}(h:∀s∈A,lc k s (idI cl.length))(hs:¬lc k s (idI cl.length))(hf:(A.map (akl k cl p)).foldl akI (true,caE 0)=(b,c))(hc:c.e=0):alS k cl p (A++s::B)=caE 230:=by
 unfold alS;rw[amI A _ h,aoL hs,DI,hf,wO,List.foldl_nil];unfold akI;dsimp only;rw[if_pos];right;unfold ald;have h1:(caE 230).e=230:=rfl;rw[h1,hc];rfl
set_option maxRecDepth 100000 in
def arZ(hS:nZ k)(hP:wK p)(hl:cl.length<2^63)(hLl:L.length<2^63)(hLs:∀s∈L,s.length<2^63):
 bA prog (.func 21) [.agg ⟨kZ k vh vs vr vc vu gh gc vn vl⟩,.agg ⟨[vL,jR]⟩,.agg ⟨[vp]⟩] [] [] (ai (ak ae) vL L::ai ae jR cl::ai bO vp p::j6 k vh vs vr vc vu gh gc vn vl [])
  (λy:CaI=>.tuple ⟨[.agg ⟨[y.vp]⟩,.agg ⟨[y.vs,y.vt]⟩,iV y.c.e]⟩) (λ_=>[]) caF (λy=>alE k cl p L y.c):=by
 refine gB 21 λB w0=>?_;dsimp only[j6];refine gF fF vs k.decl.symbols λkY cs1 es1=>?_;subst es1;refine gF (ak ae) vL L λaL cL eL=>?_;subst eL;refine go ?_;intro b3 b4 b5 b6 b7;refine gC (aoo (k:=k) (p:=p) (vh:=vh) (vs:=.slice kY k.decl.symbols.length cs1) hS hP) λe he=>?_;refine gIf (λhne=>?_) (λhz=>?_)
 .exact c9
 have hz:e=0:=ic.1 hz;subst hz;have hK:dH k:=Classical.byContradiction λh=>by have:=he.1 h;omega
 have hQ:age k p:=Classical.byContradiction λh=>by have:=he.2.1 hK h;omega
 clear he;refine gC (ajd (v:=jR) (xs:=cl) (n:=k.decl.symbols.length) hl) λb hb=>?_;cases b with
 |false=>
  exact cW
 |true=>
 have hC:=hb.1 rfl;refine gIf ?_ ?_<;>intro h0
 .exact dg
 have hL0:L≠[]:=λh=>h0 (by rw[h];rfl);have hcl:=hC.len;have hm:=hK.typ.lim.s1;have hn:=hK.Vm;refine gC (arS (k:=k) (vh:=vh) (vs:=.slice kY k.decl.symbols.length cs1) z7 z7) λyi _=>?_;obtain⟨i1,i2⟩:=yi;dsimp only[List.cons_append,List.nil_append];refine eF (ai ae i2 (idI cl.length)) (λw hw=>by rw[hcl];exact hw (ai ae i2 (idI k.decl.symbols.length)) An) ?_;refine gF ae i1 (idI k.grid.cells.length) λai1 ci1 ei1=>?_;subst ei1;refine gF ae i2 (idI cl.length) λai2 ci2 ei2=>?_;subst ei2;refine go ?_;intro b10 b11 b12;refine eF (ai bO (.slice none 0 0) ([]:kI Clue)) (λw _=>.inl ⟨rfl,none,0,rfl,trivial⟩) ?_;refine eF (ai ae (.slice none 0 0) ([]:kI Int)) (λw _=>.inl ⟨rfl,none,0,rfl,trivial⟩) ?_;refine go ?_;refine aU (λy:Nat×CaI=>L.length - y.1) (λy=>[(13,iV (y.1:Int))]) (λy=>[pt b11 (.cells [y.2.vp]),pt b12 (.cells [y.2.vs,y.2.vt])]) (λy=>[ai bO y.2.vp y.2.c.p,ai ae y.2.vs y.2.c.s,ai ae y.2.vt y.2.c.t]) (λy=>y.1<=L.length/\(∀s∈L.take y.1,lc k s (idI cl.length))/\((L.take y.1).map (akl k cl p)).foldl akI (true,caE 0)=(decide (y.1=0),y.2.c)/\(y.2.c.e=0/\alr y.2.c)) (0,⟨.slice none 0 0,.slice none 0 0,.slice none 0 0,⟨0,[],[],[]⟩⟩) ⟨bR _,(λs hs=>by simp at hs),rfl,rfl,anu 0⟩ (hk:=As) (body:=?_);rintro⟨i,bvp,bvs,bvt,c⟩ ⟨hi,hkp,hfo,hc0,hco⟩;dsimp only at hi hkp hfo hc0 hco⊢;refine gIf ?_ ?_<;>intro h1
 rotate_left
 .obtain rfl:i=L.length:=by omega
  rw[bU]at hkp hfo;have hB:=arX (p:=p) hkp;rw[hfo]at hB;obtain⟨e,q,s,t⟩:=c;dsimp only at hB hc0⊢;subst hc0;refine gF ae bvs s λas2 cs2 es2=>?_;subst es2;refine gF ae bvt t λat2 ct2 et2=>?_;subst et2;refine go ?_;exact gQ ⟨bvp,.slice as2 s.length cs2,.slice at2 t.length ct2,⟨0,q,s,t⟩⟩ ⟨λh=>absurd hK h,λ_ h=>absurd hQ h,λ_ _ h=>absurd ⟨hC,hL0⟩ h,λ_ _ _=>hB.symm⟩
 refine gX (ak ae) (xs:=L) λ_ _ s (vs1:vI) hs=>?_;refine gF ae vs1 s λas3 cs3 es3=>?_;subst es3;have hsm:=aZ hs;have hdr:L=L.take i++s::L.drop (i+1):=by
  obtain⟨h2,h3⟩:=bq.1 hs;conv=>lhs;rw[<- uq i L,oU h2,h3]
 refine go ?_;intro b14;refine ay (arD (k:=k) (s:=s) (t:=idI cl.length) (p:=p) (vh:=vh) (vs:=.slice kY k.decl.symbols.length cs1) (sc:=.slice as3 s.length cs3) (vp:=vp) hS hP (hLs s hsm) HB) (next:=λy hy2=>?_);obtain⟨v,x,e⟩:=y;dsimp only at hy2⊢;refine gIf (λhne=>?_) (λhz=>?_)
 .have hnk:¬lc k s (idI cl.length):=λh=>hne (hy2.1.ok hK h hQ);obtain rfl:e=230:=hy2.1.ns hK hnk;have hB:=arY (p:=p) (B:=L.drop (i+1)) hkp hnk hfo hc0;rw[<- hdr]at hB;refine go ?_;exact gQ ⟨.slice none 0 0,.slice none 0 0,.slice none 0 0,⟨230,[],[],[]⟩⟩ ⟨λh=>absurd hK h,λ_ h=>absurd hQ h,λ_ _ h=>absurd ⟨hC,hL0⟩ h,λ_ _ _=>hB.symm⟩
 have hz:e=0:=ic.1 hz;subst hz;have hk:lc k s (idI cl.length):=Classical.byContradiction λh=>by have:=hy2.1.ns hK h;omega
 have hx:=hy2.2.1 rfl;obtain rfl:=anv hx;have O1:=ahk hK hk hQ hx;have hok:=anx (k:=k) (cl:=cl) hK hQ hk;have hcc:akl k cl p s=⟨0,bK (aK k) (dz (aK k) cl (akM (p.map (l8 k s (idI cl.length))))) (akM (p.map (l8 k s (idI cl.length)))),s,dz (aK k) cl (akM (p.map (l8 k s (idI cl.length))))⟩:=rfl;rw[hcc]at hok;generalize hxe:akM (p.map (l8 k s (idI cl.length)))=x at *;have ame:∀s∈L.take (i+1),lc k s (idI cl.length):=by
  exact rI
 have hgl:=(FC hC.len (age.oJ O1)).p.len;have hpl:=O1.len;refine eF (ai bO v x) (λw hw=>hw (jr ((0:Int)=0) (ai bO v x)) An rfl) ?_;refine gC (ajg (k:=k) (cl:=cl) (p:=x) hK O1 hC.len) λv16 _=>?_;refine gF ae v16 (dz (aK k) cl x) λa16 c16 e16=>?_;subst e16;refine gC (Pt (k:=k) (m:=k.decl.symbols.length) (t:=dz (aK k) cl x) (p:=x) z7 (Pv O1) (age.oJ O1) z7) λv17 _=>?_;refine go ?_;intro b17;refine go ?_;have hfin:∀(d:CaR),akI (decide (i=0),c) (⟨0,bK (aK k) (dz (aK k) cl x) x,s,dz (aK k) cl x⟩:CaR)=(false,d)->((L.take (i+1)).map (akl k cl p)).foldl akI (true,caE 0)=(decide (i+1=0),d):=λd h=>by
  rw[bZ hs,fP,DI,hfo,sQ,wO,List.foldl_nil,hcc,h,aR z7]
 have hcl0:ald (⟨0,bK (aK k) (dz (aK k) cl x) x,s,dz (aK k) cl x⟩:CaR) c=decide (qG (bK (aK k) (dz (aK k) cl x) x) c.p<0):=by
  unfold ald;rw[hc0,if_neg An]
 have ai7:i=0\/qG (bK (aK k) (dz (aK k) cl x) x) c.p<0->akI (decide (i=0),c) (⟨0,bK (aK k) (dz (aK k) cl x) x,s,dz (aK k) cl x⟩:CaR)=(false,(⟨0,bK (aK k) (dz (aK k) cl x) x,s,dz (aK k) cl x⟩:CaR)):=λh=>by
  unfold akI;dsimp only;rw[if_pos];rcases h with h|h
  .exact .inl (dK h)
  .exact .inr (by rw[hcl0];exact dK h)
 have hnot:¬(i=0\/qG (bK (aK k) (dz (aK k) cl x) x) c.p<0)->akI (decide (i=0),c) (⟨0,bK (aK k) (dz (aK k) cl x) x,s,dz (aK k) cl x⟩:CaR)=(false,c):=λh=>by
  unfold akI;dsimp only;rw[if_neg];rintro(q|q)
  .exact h (.inl (iI q))
  .exact h (.inr (by rw[hcl0]at q;exact iI q))
 refine gG ?_ ?_<;>intro h0
 .refine gC (arG (va:=v17) (vb:=bvp) (xs:=bK (aK k) (dz (aK k) cl x) x) (ys:=c.p) hok.1 hco.1 hok.2 hco.2) λ_ _=>?_;refine gIf ?_ ?_<;>intro hl
  .refine gX (ak ae) (xs:=L) (k:=i) λ_ _ s2 (vs2:vI) hs2=>?_;rw[hs]at hs2;obtain rfl:s=s2:=Option.some.inj hs2;refine gF ae vs2 s λas4 cs4 es4=>?_;subst es4;refine go ?_;exact aN (i+1,(⟨v17,.slice as4 s.length cs4,.slice a16 (dz (aK k) cl x).length c16,⟨0,bK (aK k) (dz (aK k) cl x) x,s,dz (aK k) cl x⟩⟩:CaI)) HC ⟨by show i+1<=_;omega,ame,hfin _ (ai7 (.inr hl)),rfl,hok⟩
  .refine go ?_;exact aN (i+1,(⟨bvp,bvs,bvt,c⟩:CaI)) HC ⟨by show i+1<=_;omega,ame,hfin _ (hnot z7),hc0,hco⟩
 .refine gX (ak ae) (xs:=L) (k:=i) λ_ _ s2 (vs2:vI) hs2=>?_;rw[hs]at hs2;obtain rfl:s=s2:=Option.some.inj hs2;refine gF ae vs2 s λas4 cs4 es4=>?_;subst es4;refine go ?_;exact aN (i+1,(⟨v17,.slice as4 s.length cs4,.slice a16 (dz (aK k) cl x).length c16,⟨0,bK (aK k) (dz (aK k) cl x) x,s,dz (aK k) cl x⟩⟩:CaI)) HC ⟨by show i+1<=_;omega,ame,hfin _ (ai7 (.inl z7)),rfl,hok⟩
