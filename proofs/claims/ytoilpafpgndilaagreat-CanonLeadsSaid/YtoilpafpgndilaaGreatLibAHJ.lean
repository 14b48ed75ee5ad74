/- Part. -/
import Derived.Test.YtoilpafpgndilaaGreatLibAEJ
import Derived.Test.YtoilpafpgndilaaGreatLibQJ
import Derived.Test.YtoilpafpgndilaaGreatLibAFJ
import Derived.Test.YtoilpafpgndilaaGreatLibRJ
set_option linter.all false
set_option maxRecDepth 10000
set_option maxHeartbeats 4000000
namespace Go.Proofs.YtoilpafpgndilaaGreat
open Tryz (prog)
open Go.Ideal Kd Canon
def Vh(fs:ae aI):OA:=⟨λw S=>S=[]/\∀f∈fs,f.p w,λa h ⟨h1,h2⟩=>⟨h1,λf hf=>f.mono a (h2 f hf)⟩⟩
variable{B:ae Nat}{w0:Wd}{kl:ae OA}{F:ae aI}{Q:IH->Prop}
def OX(fs:ae aI)(hf:∀w:Wd,(∀f∈F,f.p w)->∀f∈fs,f.p w)(h:R Q B w0 (Vh fs::kl) F):R Q B w0 kl F:=λw s=>by
 obtain⟨S,h1,h2,h3⟩:=s.own;exact h w ⟨s.agree,s.le,s.fH,⟨S,⟨[],S,⟨rfl,hf w s.facts⟩,h1,rfl⟩,h2,h3⟩,s.facts⟩
def adr{kl':ae OA}(fs:ae aI)(hk:aB (Vh fs) kl kl':=by repeat (first|with_reducible exact aB.here|with_reducible apply aB.there))(h:R Q B w0 kl' (fs++F)):R Q B w0 kl F:=λw s=>by
 obtain⟨S,⟨S1,S2,⟨q1,q0⟩,q2,e⟩,h2,h3⟩:=(s.fI hk).own;subst q1;exact h w ⟨s.agree,s.le,s.fH,⟨S,by rw[e];exact q2,h2,h3⟩,λf hf=>by
  rcases fq.1 hf with hf|hf
  .exact q0 f hf
  .exact s.facts f hf⟩
structure nU where
 e:Int
 p:List Clue
 s:List Int
 t:List Int
structure nV where
 vp:Value
 vs:Value
 vt:Value
 c:nU
abbrev zT(y:nV):ah:=.agg ⟨[y.vp,y.vs,y.vt,iV y.c.e]⟩
abbrev lJ(y:nV):ae aI:=[aj aY y.vp y.c.p,aj ai y.vs y.c.s,aj ai y.vt y.c.t]
def uV(e:Int):nU:=⟨e,[],[],[]⟩
def pM(e:Int):nV:=⟨.slice none 0 0,.slice none 0 0,.slice none 0 0,uV e⟩
def aqV(e:Int)(w:Wd):∀f∈lJ (pM e),f.p w:=by
 intro f hf;simp only[lJ,pM,uV,bH,Ab,or_false]at hf;rcases hf with rfl|rfl|rfl<;>exact .inl ⟨rfl,none,0,rfl,trivial⟩
def Du(a b:nU):Bool:=if decide (a.e≠0)≠decide (b.e≠0)then decide (a.e≠0)else decide (kX a.p b.p<0)
def nA(b:Bool×nV)(x:nV):Bool×nV:=(false,if b.1=true\/Du x.c b.2.c=true then x else b.2)
def BM(b:Bool×nV)(x:nV):(Bool×nV)×Out:=(nA b x,Out.normal)
def ads:∀(xs:ae nV) (b:Bool×nV),iO BM b xs=(xs.foldl nA b,Out.normal)
 |[],b=>rfl
 |x::xs,b=>by
  rw[iO];show iO BM (nA b x) xs=_;rw[ads xs,nC]
def adt:∀(vs:ae nV) (b:Bool×nV),b.1=false->(vs.foldl nA b).1=false/\((vs.foldl nA b).2=b.2\/(vs.foldl nA b).2∈vs)
 |[],b,h=>⟨h,.inl rfl⟩
 |x::vs,b,h=>by
  rw[nC];obtain⟨h1,h2⟩:=adt vs (nA b x) rfl;refine⟨h1,?_⟩;rcases h2 with h2|h2
  .rw[h2];show(if _ then x else _)=_\/(if _ then x else _)∈_;split
   .exact .inr (dD ..)
   .exact .inl rfl
  .exact .inr (dB _ h2)
def aqW:∀(vs:ae nV),vs≠[]->(vs.foldl nA (true,pM 0)).1=false/\(vs.foldl nA (true,pM 0)).2∈vs
 |[],h=>absurd rfl h
 |x::vs,_=>by
  rw[nC];have hp:nA (true,pM 0) x=(false,x):=by unfold nA;rw[if_pos (.inl rfl)]
  rw[hp];obtain⟨h1,h2⟩:=adt vs (false,x) rfl;refine⟨h1,?_⟩;rcases h2 with h2|h2
  .rw[h2];exact dD ..
  .exact dB _ h2
def Hr(c:nU):Prop:=c.p.length<=1000000/\short c.p
def aqX(e:Int):Hr (uV e):=⟨bM _,λg hg=>by cases hg⟩
def aqY{a b:nV}(ha:Hr a.c)(hb:Hr b.c):fC prog 45 [zT a,zT b] (lJ a++lJ b) (λ_:Unit=>.bool (Du a.c b.c)) (λ_=>True):=by
 refine gB 45 λB w0=>?_;obtain⟨vp,vs,vt,e,p,s,t⟩:=a;obtain⟨Vi,vs2,vt2,e2,p2,s2,t2⟩:=b;obtain⟨ha1,ha2⟩:=ha;obtain⟨hb1,hb2⟩:=hb;dsimp only[zT,lJ,List.cons_append,List.nil_append]at ha1 ha2 hb1 hb2⊢;refine go ?_;intro b2 b3;refine go ?_;refine p9 (p:=decide (e≠0)≠decide (e2≠0)) (by by_cases h1:e=0<;>by_cases h2:e2=0<;>simp[h1,h2]<;>rfl) (λh=>?_) (λh=>?_)
 .refine bF ?_;unfold Du;rw[if_pos h];rfl
 .refine gC (ado (va:=vp) (vb:=Vi) (xs:=p) (ys:=p2) ha1 hb1 ha2 hb2) λ_ _=>?_;refine bF ?_;unfold Du;rw[if_neg h];rfl
def aqZ{fn:Fn}{first cap:ae ah}{F1:ae aI}{X:ae nV->Prop}(hit:Gn prog (λy=>[zT y]) lJ fn first cap F1 X)(hX:∀xs,X xs->∀x∈xs,Hr x.c):
 aX prog (.func 43) [.func fn ⟨first⟩ ⟨cap⟩,.func (.func 45) ⟨[]⟩ ⟨[]⟩] [] [] F1 zT (λ_=>[]) lJ (λy=>∃xs,X xs/\y=(xs.foldl nA (true,pM 0)).2):=by
 refine En _ (qo 43) λB w0=>?_;refine go ?_;intro b3 b4 b5;refine gP b3 ?_;refine OX (lJ (pM 0)) (λw _=>aqV 0 w) ?_;refine go ?_;refine RO (Z:=Nat) BM (λb=>[pt b4 (.cells [b.2.vp,b.2.vs,b.2.vt,iV b.2.c.e]),pt b5 (.cells [.bool b.1]),Vh (lJ b.2)]) (λvs b=>b=vs.foldl nA (true,pM 0)) (true,pM 0) _ (λx z=>[pt z (.cells [x.vp,x.vs,x.vt,iV x.c.e])]) rfl (λvs b x rest hb _ _=>by rw[hb,wD];rfl) hit
  (by intro z x lo o B w0;dsimp only[zT,lJ,List.cons_append,List.nil_append,List.zip_cons_cons,List.zip_nil_left,List.reverse_cons,List.reverse_nil];refine go ?_;intro b9;refine go ?_;exact CK b9 rfl) ?_ ?_ (λ_ _=>trivial) (hk:=s9)
 .rintro vs ⟨fi,y⟩ x rest b6 lo LL B w0 hy OY;have hx:=hX _ OY x s7;dsimp only[lJ,List.cons_append,List.nil_append];refine adr (lJ y) (h:=?_);cases fi with
  |true=>
   dsimp only[lJ,List.cons_append,List.nil_append];refine go ?_;refine OX (lJ x) (λw hw f hf=>hw f CH) ?_;have hp:BM (true,y) x=((false,x),Out.normal):=by
    unfold BM;rw[show nA (true,y) x=(false,x)by unfold nA;rw[if_pos (.inl rfl)]]
   exact c9
  |false=>
   have hne:vs≠[]:=λh=>by subst h;cases hy
   have hym:y∈vs:=by have:=(aqW vs hne).2;rw[<- hy]at this;exact this
   have hyo:=hX _ OY y (jl _ hym);dsimp only[lJ,List.cons_append,List.nil_append];refine gC (aqY (a:=x) (b:=y) hx hyo) λ_ _=>?_;cases hl:Du x.c y.c with
   |true=>
    refine go ?_;refine OX (lJ x) (λw hw f hf=>hw f CH) ?_;have hp:BM (false,y) x=((false,x),Out.normal):=by
     unfold BM;rw[show nA (false,y) x=(false,x)by unfold nA;rw[if_pos (.inr hl)]]
    exact c9
   |false=>
    refine go ?_;refine OX (lJ y) (λw hw f hf=>hw f CH) ?_;have hp:BM (false,y) x=((false,y),Out.normal):=by
     unfold BM;rw[show nA (false,y) x=(false,y)by unfold nA;rw[if_neg];rw[hl];simp]
    exact c9
 .intro r xs OY;rw[ads];generalize hz:xs.foldl nA (true,pM 0)=z;obtain⟨fi,y⟩:=z;dsimp only[List.cons_append,List.nil_append];refine adr (lJ y) (h:=?_);dsimp only[lJ,List.cons_append,List.nil_append];refine go ?_;exact yB y (hv:=rfl) (hp:=⟨xs,OY,by rw[hz]⟩)
end Go.Proofs.YtoilpafpgndilaaGreat
namespace Go.Proofs.YtoilpafpgndilaaGreat
open Tryz (prog)
open Go.Ideal Kd Canon
noncomputable def wh(xs:ae Clue):ae Clue:=open Classical in if h:∃y,ik xs y then Classical.choose h else[]
def OZ{xs y:ae Clue}(h:ik xs y):y=wh xs:=by
 unfold wh;rw[dif_pos ⟨y,h⟩];exact h.uniq (Pv (⟨y,h⟩:∃y,ik xs y))
def lZ(n:Nat):ae Int:=(List.range n).map Int.ofNat
def Ht(n:Nat):(lZ n).length=n:=by unfold lZ;rw[aR,nG]
def aq1(n:Nat):lZ (n+1)=lZ n++[(n:Int)]:=by unfold lZ;rw[Ag,cB];rfl
noncomputable def rA(k:aQ)(cl:ae Int)(p:ae Clue)(s:ae Int):nU:=
 ⟨0,gK (bT k) (fZ (bT k) cl (wh (p.map (fw k s (lZ cl.length))))) (wh (p.map (fw k s (lZ cl.length)))),s,fZ (bT k) cl (wh (p.map (fw k s (lZ cl.length))))⟩
noncomputable def pg(k:aQ)(cl:ae Int)(p:ae Clue):ae (ae Int)->ae nU
 |[]=>[]
 |s::L=>open Classical in if eU k s (lZ cl.length)then rA k cl p s::pg k cl p L else[uV 230]
def Vj{k:aQ}{cl:ae Int}{p:ae Clue}:∀(A B:ae (ae Int)),(∀s∈A,eU k s (lZ cl.length))->pg k cl p (A++B)=A.map (rA k cl p)++pg k cl p B
 |[],B,_=>rfl
 |a::A,B,h=>by
  rw[dm,pg,if_pos (h a (dD ..)),Vj A B (λs hs=>h s (dB _ hs))];rfl
variable{k:aQ}{cl:ae Int}{p:ae Clue}
def aq2{s:ae Int}{B:ae (ae Int)}(h:¬eU k s (lZ cl.length)):pg k cl p (s::B)=[uV 230]:=by rw[pg,if_neg h]
def KA(xs:ae nU):ae nV:=xs.map λc=>⟨.slice none 0 0,.slice none 0 0,.slice none 0 0,c⟩
def aq3(xs:ae nU):(KA xs).map (λy=>y.c)=xs:=by unfold KA;rw[rG];exact BX xs
def aq4{bm n:Nat}:oK (pt bm (.cells ((lZ n).map iV))) [aj ai (.slice (some ⟨bm,0,some 0⟩) n n) (lZ n)]:=by
 have:=qP (b:=bm) (f:=0) (c:=n) (xs:=lZ n) (hc:=by rw[Ht];exact aZ _);rw[Ht]at this;exact this
def aq5{bg bk bp:Nat}{L:ae (ae Int)}{vh vs vr vc vu gh gc vn vl vp ja vL:ah}(hS:qg k)(hP:xB p)(hK:bE k)(hQ:fK k p)(hC:zG k.decl.symbols.length cl)
 (uD:L.length<2^63) (yS:∀s∈L,s.length<2^63):
 Gn prog (λy=>[zT y]) lJ (.func 82) [] [ptr' bg,ptr' bk,ptr' bp] (bW bg 0 [vL,ja]::bW bk 0 (jO k vh vs vr vc vu gh gc vn vl)::bW bp 0 [vp]::aj (az ai) vL L::aj ai ja cl::aj aY vp p::iT k vh vs vr vc vu gh gc vn vl []) (λxs=>xs.map (λy=>y.c)=pg k cl p L):=by
 intro S inv ok step s0 tq y1 y2 F' h0 hok hy;dsimp only[iT,List.cons_append,List.nil_append];have hcl:=hC.len;have hm:=hK.typ.lim.s1;refine gB 82 λB w0=>?_;refine gF ai ja cl λacl ccl Kz=>?_;subst Kz;refine gF (az ai) vL L λaL cL eL=>?_;subst eL;refine go ?_;refine sW cl.length ⟨s6,s6,s6⟩ λbm=>?_;rw[BB];refine go ?_;refine dV (λi=>cl.length - i) (λi:Nat=>[(19,iV (i:Int))]) (λi=>[pt bm (.cells ((gM (lZ i) cl.length).map iV))]) (λ_=>[]) (λi=>i<=cl.length) 0 (bM _) (hk:=s9) (body:=?_);intro i hi;refine aO ?_ ?_<;>intro h1
 .refine go ?_;refine jN (b:=bm) (o:=0+i*1) (cs:=(gM (lZ i) cl.length).map iV) (v:=iV (i:Int)) (cs':=(gM (lZ (i+1)) cl.length).map iV) (by rw[eB,lK,<- pQ,Bz (Ht i).symm s6,aq1]) (by rw[aR,xC (by rw[Ht];omega)];omega) ?_;refine go ?_;exact eJ
 obtain rfl:i=cl.length:=s6
 rw[BA (Ht _)];refine gZ (aq4 (bm:=bm) (n:=cl.length)) ?_;refine go ?_;refine dV (λy:Nat×ae nV×S=>L.length - y.1) (λy=>[(30,iV (y.1:Int))]) (λy=>inv y.2.2) (λ_=>[]) (λy=>y.1<=L.length/\ok y.2.1 y.2.2/\y.2.1.map (λy=>y.c)=(L.take y.1).map (rA k cl p)/\(∀s∈L.take y.1,eU k s (lZ cl.length))/\∀rest,dA step s0 (y.2.1++rest)=dA step y.2.2 rest) (0,[],s0) ⟨bM _,h0,rfl,(λs hs=>by simp at hs),λ_=>rfl⟩ (body:=?_);rintro⟨j,di,bX⟩ ⟨hj,hos,lH,hkp,hrun⟩;dsimp only at hj hos lH hkp hrun⊢;have hpre:pg k cl p L=(L.take j).map (rA k cl p)++pg k cl p (L.drop j):=by rw[<- Vj _ _ hkp,nE]
 refine aO ?_ ?_<;>intro h1
 rotate_left
 .have hr2:=hrun [];rw[gW]at hr2;refine go ?_;exact gQ di (by rw[lH,hpre,vz s6,pg,gW]) (hk:=by rw[hr2];exact aF.all _)
 refine gX (az ai) (xs:=L) λ_ _ s (vs1:ah) hs=>?_;refine gF ai vs1 s λqd cs1 es1=>?_;subst es1;have hsm:=aT hs;have hdr:L.drop j=s::L.drop (j+1):=by
  obtain⟨h2,h3⟩:=aV.1 hs;rw[<- h3];exact nH h2
 refine gC (Ku (k:=k) (s:=s) (t:=lZ cl.length) (p:=p) (sc:=.slice qd s.length cs1) (vp:=vp) hS hP (yS s hsm) (by rw[Ht];omega)) λy hy2=>?_;obtain⟨v,x,e⟩:=y;dsimp only at hy2⊢;refine go ?_;intro b9;refine aO (λhne=>?_) (λhz=>?_)
 .have hnk:¬eU k s (lZ cl.length):=λh=>hne (hy2.1.ok hK h hQ);obtain rfl:e=230:=hy2.1.ns hK hnk;have hX:(di++pM 230::[]).map (λy=>y.c)=pg k cl p L:=by
   rw[hpre,hdr,aq2 hnk,cB,lH];rfl
  have gy:=hy di bX (pM 230) [] hos hX;dsimp only at gy;rw[show zT (pM 230)=.agg ⟨[.slice none 0 0,.slice none 0 0,.slice none 0 0,iV 230]⟩from rfl,show lJ (pM 230)=[aj aY (.slice none 0 0) ([]:ae Clue),aj ai (.slice none 0 0) ([]:ae Int),aj ai (.slice none 0 0) ([]:ae Int)]from rfl]at gy;rw[dm,dm,dm,cK]at gy;refine go ?_;refine eD (aj aY (.slice none 0 0) ([]:ae Clue)) (λw _=>.inl ⟨rfl,none,0,rfl,trivial⟩) ?_;refine eD (aj ai (.slice none 0 0) ([]:ae Int)) (λw _=>.inl ⟨rfl,none,0,rfl,trivial⟩) ?_;refine iy gy (next:=λ_ _=>?_);have hr:=hrun [pM 230];have hr2:dA step bX [pM 230]=(step bX (pM 230)).1:=by
   rw[dA];cases (step bX (pM 230))with
   |mk a b=>cases b<;>rfl
  rw[hr2]at hr;refine go ?_;exact gQ (di++[pM 230]) hX (hk:=CC)
 have hz:e=0:=kv.1 hz;subst hz;have hk:eU k s (lZ cl.length):=Classical.byContradiction λh=>by have:=hy2.1.ns hK h;omega
 have hx:=hy2.2.1 rfl;obtain rfl:=OZ hx;have ru:=xE hK hk hQ hx;generalize hxe:wh (p.map (fw k s (lZ cl.length)))=x at *;refine eD (aj aY v x) (λw hw=>hw (nQ ((0:Int)=0) (aj aY v x)) s7 rfl) ?_;refine gC (aqJ (k:=k) (cl:=cl) (p:=x) (vp:=v) hK ru hC.len) λyr _=>?_;obtain⟨v11,v12⟩:=yr;dsimp only;refine gF ai v12 (fZ (bT k) cl x) λa12 c12 e12=>?_;subst e12;refine go ?_;intro b11;refine go ?_;have hcc:rA k cl p s=⟨0,gK (bT k) (fZ (bT k) cl x) x,s,fZ (bT k) cl x⟩:=by unfold rA;rw[hxe]
 have aq6:∀s∈L.take (j+1),eU k s (lZ cl.length):=by
  rw[fF hs];intro q hq;rcases fq.1 hq with hq|hq
  .exact hkp q hq
  .obtain rfl:=bA.1 hq;exact hk
 have hnx:∀y:nV,y.c=rA k cl p s->(di++[y]).map (λy=>y.c)=(L.take (j+1)).map (rA k cl p):=λy hy=>by
  rw[fF hs,cB,cB,lH,l6,l6,hy]
 generalize zi:(⟨v11,(.slice qd s.length cs1),(.slice a12 (fZ (bT k) cl x).length c12),⟨0,gK (bT k) (fZ (bT k) cl x) x,s,fZ (bT k) cl x⟩⟩:nV)=yy;have O0:yy.c=rA k cl p s:=by rw[<- zi,hcc]
 have hX:(di++yy::KA (pg k cl p (L.drop (j+1)))).map (λy=>y.c)=pg k cl p L:=by
  rw[hpre,hdr,cB,fA,aq3,lH,O0,pg,if_pos hk]
 have gy:=hy di bX yy _ hos hX;dsimp only at gy;rw[show zT yy=.agg ⟨[v11,(.slice qd s.length cs1),(.slice a12 (fZ (bT k) cl x).length c12),iV 0]⟩by rw[<- zi],show lJ yy=[aj aY v11 (gK (bT k) (fZ (bT k) cl x) x),aj ai (.slice qd s.length cs1) s,aj ai (.slice a12 (fZ (bT k) cl x).length c12) (fZ (bT k) cl x)]by rw[<- zi]]at gy;rw[dm,dm,dm,cK]at gy;refine iy gy (next:=λ_ _=>?_);cases hst:(step bX yy).2 with
 |true=>
  have hs1:step bX yy=((step bX yy).1,true):=Prod.ext rfl hst;refine go ?_;refine aU (j+1,di++[yy],(step bX yy).1) (by show L.length - (j+1)<L.length - j;omega) ⟨by show j+1<=_;omega,hok _ bX _ _ hos hX hst,hnx yy O0,aq6,λrest=>?_⟩;exact lj
 |false=>
  have hs1:step bX yy=((step bX yy).1,false):=Prod.ext rfl hst;have hr:=hrun (yy::KA (pg k cl p (L.drop (j+1))));rw[dA,hs1]at hr;dsimp only at hr;refine go ?_;exact gQ (di++yy::KA (pg k cl p (L.drop (j+1)))) hX (hk:=CC)
end Go.Proofs.YtoilpafpgndilaaGreat
namespace Go.Proofs.YtoilpafpgndilaaGreat
open Tryz (prog)
open Go.Ideal Kd Canon
def aq7(sy:Int->Bool)(t:ae Int)(p:ae Clue):(gK sy t p).length=p.length:=by unfold gK;rw[aR]
def aq8{k:aQ}{p:ae Clue}(h:fK k p){t:ae Int}:short (gK (bT k) t p):=λg hg=>by
 obtain⟨a,ha,rfl⟩:=bS.1 hg;obtain⟨c',L',a1,a2,a3,a4,a5,a6⟩:=h.right a ha;have hl:a.values.length<=8:=by rcases a6 with⟨_,b,_⟩|⟨_,b,_⟩|⟨_,_,b,_⟩<;>omega
 unfold kQ;dsimp only;split
 .rw[EF];omega
 .omega
def rC(b:Bool×nU)(x:nU):Bool×nU:=(false,if b.1=true\/Du x b.2=true then x else b.2)
def adv:∀(xs:ae nV) (b:Bool×nV),(xs.foldl nA b).2.c=((xs.map (λy=>y.c)).foldl rC (b.1,b.2.c)).2
 |[],b=>rfl
 |x::xs,b=>by
  rw[nC,fA,nC,adv xs];have:rC (b.1,b.2.c) x.c=((nA b x).1,(nA b x).2.c):=by
   unfold rC nA;dsimp only;split<;>rfl
  rw[this]
noncomputable def zU(k:aQ)(cl:ae Int)(p:ae Clue)(L:ae (ae Int)):nU:=((pg k cl p L).foldl rC (true,uV 0)).2
structure O1(k:aQ)(cl:List Int)(p:List Clue)(L:List (List Int))(c:nU):Prop where
 nk:¬bE k->c=uV 180
 np:bE k->¬fK k p->c=uV 190
 nc:bE k->fK k p->¬(zG k.decl.symbols.length cl/\L≠[])->c=uV 1
 ok:bE k->fK k p->zG k.decl.symbols.length cl/\L≠[]->c=zU k cl p L
variable{k:aQ}{cl:ae Int}{p:ae Clue}{L:ae (ae Int)}
def O1.same{a b:nU}(h:O1 k cl p L a)(h2:O1 k cl p L b):a=b:=by
 by_cases hK:bE k
 .by_cases hQ:fK k p
  .by_cases hC:zG k.decl.symbols.length cl/\L≠[]
   .rw[h.ok hK hQ hC,h2.ok hK hQ hC]
   .rw[h.nc hK hQ hC,h2.nc hK hQ hC]
  .rw[h.np hK hQ,h2.np hK hQ]
 .rw[h.nk hK,h2.nk hK]
def aq9(xs:ae Clue):ik xs (wh xs)\/wh xs=[]:=by
 by_cases h:∃y,ik xs y
 .obtain⟨y,hy⟩:=h;exact .inl (OZ hy▸hy)
 .right;unfold wh;rw[dif_neg h]
def ara{s:ae Int}(hK:bE k)(hQ:fK k p)(hk:eU k s (lZ cl.length)):Hr (rA k cl p s):=by
 unfold rA;rcases aq9 (p.map (fw k s (lZ cl.length)))with h|h
 .have ru:=xE hK hk hQ h;have:=ru.len;exact⟨by dsimp only;rw[aq7];omega,aq8 ru⟩
 .rw[h];exact⟨bM _,λg hg=>by cases hg⟩
def adw{k:aQ}{cl:ae Int}{p:ae Clue}(hK:bE k)(hQ:fK k p):∀(L:ae (ae Int)),∀c∈pg k cl p L,Hr c
 |[],c,hc=>by cases hc
 |s::L,c,hc=>by
  rw[pg]at hc;split at hc
  .rename_i h;rcases bH.1 hc with rfl|hc
   .exact ara hK hQ h
   .exact adw hK hQ L c hc
  .obtain rfl:=bA.1 hc;exact aqX _
variable{vh vs vr vc vu gh gc vn vl vp ja vL:ah}
def arb:
 aX prog (.func 44) [.agg ⟨jO k vh vs vr vc vu gh gc vn vl⟩,.agg ⟨[vL,ja]⟩,.agg ⟨[vp]⟩] [] [] [] (λy:Nat×Nat×Nat=>.func (.func 82) #[] #[ptr' y.1,ptr' y.2.1,ptr' y.2.2]) (λ_=>[])
  (λy=>[bW y.1 0 [vL,ja],bW y.2.1 0 (jO k vh vs vr vc vu gh gc vn vl),bW y.2.2 0 [vp]]) (λ_=>True):=by
 refine gB 44 λB w0=>?_;refine go ?_;intro b3 b4 b5;refine gP b3 ?_;refine gP b4 ?_;refine gP b5 ?_;refine go ?_;exact gQ (b4,b3,b5) trivial
def Hu(hS:qg k)(hP:xB p)(hl:cl.length<2^63)(uD:L.length<2^63)(yS:∀s∈L,s.length<2^63):
 aX prog (.func 20) [.agg ⟨jO k vh vs vr vc vu gh gc vn vl⟩,.agg ⟨[vL,ja]⟩,.agg ⟨[vp]⟩] [] [] (aj (az ai) vL L::aj ai ja cl::aj aY vp p::iT k vh vs vr vc vu gh gc vn vl [])
  (λy:nV=>.tuple ⟨[.agg ⟨[y.vp]⟩,.agg ⟨[y.vs,y.vt]⟩,iV y.c.e]⟩) (λ_=>[]) lJ (λy=>O1 k cl p L y.c):=by
 refine gB 20 λB w0=>?_;dsimp only[iT];refine gF kF vs k.decl.symbols λqd cs1 es1=>?_;subst es1;refine gF (az ai) vL L λaL cL eL=>?_;subst eL;refine go ?_;intro b3 b4 b5 b6 b7;refine gC (abL (k:=k) (p:=p) (vh:=vh) (vs:=.slice qd k.decl.symbols.length cs1) hS hP) λe he=>?_;refine aO (λhne=>?_) (λhz=>?_)
 .refine go ?_;refine eD (aj aY (.slice none 0 0) ([]:ae Clue)) (λw _=>.inl ⟨rfl,none,0,rfl,trivial⟩) ?_;refine eD (aj ai (.slice none 0 0) ([]:ae Int)) (λw _=>.inl ⟨rfl,none,0,rfl,trivial⟩) ?_;exact gQ ⟨.slice none 0 0,.slice none 0 0,.slice none 0 0,⟨e,[],[],[]⟩⟩ ⟨λh=>by rw[<- he.1 h];rfl,λa b=>by rw[<- he.2.1 a b];rfl,λa b _=>absurd (he.2.2 a b) hne,λa b _=>absurd (he.2.2 a b) hne⟩
 have hz:e=0:=kv.1 hz;subst hz;have hK:bE k:=Classical.byContradiction λh=>by have:=he.1 h;omega
 have hQ:fK k p:=Classical.byContradiction λh=>by have:=he.2.1 hK h;omega
 clear he;refine gC (aqA (v:=ja) (xs:=cl) (n:=k.decl.symbols.length) hl) λb hb=>?_;cases b with
 |false=>
  have hno:¬zG k.decl.symbols.length cl:=λh=>by have:=hb.2 h;cases this
  refine go ?_;refine eD (aj aY (.slice none 0 0) ([]:ae Clue)) (λw _=>.inl ⟨rfl,none,0,rfl,trivial⟩) ?_;refine eD (aj ai (.slice none 0 0) ([]:ae Int)) (λw _=>.inl ⟨rfl,none,0,rfl,trivial⟩) ?_;exact gQ ⟨.slice none 0 0,.slice none 0 0,.slice none 0 0,⟨1,[],[],[]⟩⟩ ⟨λh=>absurd hK h,λ_ h=>absurd hQ h,λ_ _ _=>rfl,λ_ _ h=>absurd h.1 hno⟩
 |true=>
 have hC:=hb.1 rfl;refine aO ?_ ?_<;>intro h0
 .refine go ?_;have hL0:L=[]:=j6.1 s6;refine eD (aj aY (.slice none 0 0) ([]:ae Clue)) (λw _=>.inl ⟨rfl,none,0,rfl,trivial⟩) ?_;refine eD (aj ai (.slice none 0 0) ([]:ae Int)) (λw _=>.inl ⟨rfl,none,0,rfl,trivial⟩) ?_;exact gQ ⟨.slice none 0 0,.slice none 0 0,.slice none 0 0,⟨1,[],[],[]⟩⟩ ⟨λh=>absurd hK h,λ_ h=>absurd hQ h,λ_ _ _=>rfl,λ_ _ h=>absurd hL0 h.2⟩
 have hL0:L≠[]:=λh=>h0 (by rw[h];rfl);refine gC (arb (k:=k) (vh:=vh) (vs:=.slice qd k.decl.symbols.length cs1) (ja:=ja) (vL:=.slice aL L.length cL)) λyl _=>?_;obtain⟨bg,bk,bp⟩:=yl;dsimp only[List.cons_append,List.nil_append];refine gC (aqZ (aq5 (bg:=bg) (bk:=bk) (bp:=bp) (k:=k) (cl:=cl) (p:=p) (L:=L) (vh:=vh) (vs:=.slice qd k.decl.symbols.length cs1) (ja:=ja) (vL:=.slice aL L.length cL) hS hP hK hQ hC uD yS) (λxs hxs x hx=>adw hK hQ L x.c (by rw[<- hxs];exact Fg hx))) λy hy=>?_;obtain⟨Vi,vs2,vt2,c⟩:=y;obtain⟨xs,hxs,O0⟩:=hy;have arc:c=zU k cl p L:=by
  have:=adv xs (true,pM 0);rw[<- O0,hxs]at this;exact this
 obtain⟨e,q,s,t⟩:=c;dsimp only[zT,lJ,List.cons_append,List.nil_append];refine gF ai vs2 s λas2 cs2 es2=>?_;subst es2;refine gF ai vt2 t λat2 ct2 et2=>?_;subst et2;refine go ?_;intro b10;refine go ?_;exact gQ ⟨Vi,.slice as2 s.length cs2,.slice at2 t.length ct2,⟨e,q,s,t⟩⟩ ⟨λh=>absurd hK h,λ_ h=>absurd hQ h,λ_ _ h=>absurd ⟨hC,hL0⟩ h,λ_ _ _=>arc⟩
end Go.Proofs.YtoilpafpgndilaaGreat
namespace Go.Proofs.YtoilpafpgndilaaGreat
open Tryz (prog)
open Go.Ideal Kd Canon
variable{x:ae Clue}
def Vk{b r:ae Clue}(h:¬kX b r<0)(h2:¬kX x b<0):¬kX x r<0:=λq=>by
 by_cases e:b=r
 .rw[e]at h2;exact h2 q
 .have z:=AU.zero b r;have n:=AU.neg r b;have hrb:kX r b<0:=by
   rw[n];have:kX b r≠0:=λq=>e (z.1 q);omega
  exact h2 (AU.trans _ _ _ q hrb)
def Vl:∀(xs:ae nU) (b:nU),b.e=0->(∀x∈xs,x.e=0)->((xs.foldl rC (false,b)).2=b\/(xs.foldl rC (false,b)).2∈xs)/\¬kX b.p (xs.foldl rC (false,b)).2.p<0/\∀x∈xs,¬kX x.p (xs.foldl rC (false,b)).2.p<0
 |[],b,_,_=>⟨.inl rfl,by rw[List.foldl_nil,(AU.zero _ _).2 rfl];omega,λx hx=>by cases hx⟩
 |x::xs,b,hb,hx=>by
  have hx0:=hx x (dD ..);have hcl:Du x b=decide (kX x.p b.p<0):=by
   unfold Du;rw[hx0,hb];simp
  rw[nC];have hp:rC (false,b) x=(false,if kX x.p b.p<0 then x else b):=by
   unfold rC;dsimp only;rw[hcl];simp
  rw[hp];by_cases h1:kX x.p b.p<0
  .rw[if_pos h1];obtain⟨r1,r2,r3⟩:=Vl xs x hx0 (λy hy=>hx y (dB _ hy));generalize(List.foldl rC (false,x) xs).2=r at *;have hbx:¬kX b.p x.p<0:=λq=>by
    have:=(AU.neg _ _).1 q;omega
   refine⟨?_,Vk r2 hbx,λy hy=>?_⟩
   .rcases r1 with e|e
    .exact .inr (by rw[e];exact dD ..)
    .exact .inr (dB _ e)
   .exact r7
  .rw[if_neg h1];obtain⟨r1,r2,r3⟩:=Vl xs b hb (λy hy=>hx y (dB _ hy));generalize(List.foldl rC (false,b) xs).2=r at *;refine⟨?_,r2,λy hy=>?_⟩
   .rcases r1 with e|e
    .exact .inl e
    .exact .inr (dB _ e)
   .rcases bH.1 hy with rfl|hy
    .exact Vk r2 h1
    .exact r3 y hy
def ari{xs:ae nU}(h0:xs≠[])(hx:∀x∈xs,x.e=0)(b:nU):(xs.foldl rC (true,b)).2∈xs/\∀x∈xs,¬kX x.p (xs.foldl rC (true,b)).2.p<0:=by
 cases xs with
 |nil=>exact absurd rfl h0
 |cons x xs=>
  rw[nC];have hp:rC (true,b) x=(false,x):=by unfold rC;rw[if_pos (.inl rfl)]
  rw[hp];obtain⟨r1,r2,r3⟩:=Vl xs x (hx x (dD ..)) (λy hy=>hx y (dB _ hy));refine⟨?_,λy hy=>?_⟩
  .rcases r1 with e|e
   .rw[e];exact dD ..
   .exact dB _ e
  .exact r7
def arj(xs:ae Clue):∃q,ik xs q:=⟨_,SB (Ah _ λa b=>decide (¬jD b a<0)) (by
 have:=Px (le:=λa b:Clue=>decide (¬jD b a<0)) (λa b c h1 h2=>by
  rw[jQ]at h1 h2⊢;intro q;by_cases e:jD b c<0
  .exact mL
  .exact jn) (λa b=>by
  exact nh) xs
 exact this.imp λh=>by rw[jQ]at h;exact h)⟩
def Vm(xs:ae Clue):ik xs (wh xs):=by
 obtain⟨q,hq⟩:=arj xs;exact OZ hq▸hq
structure BN(k:aQ)(G:List (List Int))(cl:List Int)(p:List Clue)(c:nU):Prop where
 e0:c.e=0
 can:uS k G cl p c.p
 sG:c.s∈G
 tC:jS k.decl.symbols.length cl c.t
 img:ik (p.map (fw k c.s c.t)) c.p
variable{k:aQ}{G:ae (ae Int)}{cl:ae Int}{p:ae Clue}
def EZ(h:nT k G cl)(hK:bE k)(hQ:fK k p):BN k G cl p (zU k cl p G):=by
 have hcl:=h.pK.len;have hid:lZ cl.length=upTo' k.decl.symbols.length:=by rw[hcl];rfl
 have hG0:G≠[]:=λe=>by have:=h.qY.one;rw[e]at this;cases this
 have hL:pg k cl p G=G.map (rA k cl p):=by
  have:=Vj (k:=k) (cl:=cl) (p:=p) G [] (λs hs=>by rw[hid];exact h.keep s hs);rw[gW]at this;rw[this,pg,gW]
 have hF:=ari (xs:=G.map (rA k cl p)) (λe=>hG0 (List.map_eq_nil_iff.1 e)) (λx hx=>by obtain⟨s,_,rfl⟩:=bS.1 hx;rfl) (uV 0);unfold zU;rw[hL];generalize(List.foldl rC (true,uV 0) (G.map (rA k cl p))).2=c at hF;obtain⟨h1,h2⟩:=hF;obtain⟨s,hs,rfl⟩:=bS.1 h1;have hsrt:=Vm (p.map (fw k s (upTo' k.decl.symbols.length)));have ru:=xE hK (h.keep s hs) hQ hsrt;have hg:=Td hcl (fK.tN ru);have hC:∀s:ae Int,rA k cl p s=⟨0,gK (bT k) (fZ (bT k) cl (wh (p.map (fw k s (upTo' k.decl.symbols.length))))) (wh (p.map (fw k s (upTo' k.decl.symbols.length)))),s,fZ (bT k) cl (wh (p.map (fw k s (upTo' k.decl.symbols.length))))⟩:=λs=>by unfold rA;rw[hid]
 rw[hC s];refine⟨rfl,⟨⟨s,hs,_,hsrt,rfl⟩,λb hb z hz=>?_⟩,hs,hg,?_⟩
 .obtain⟨x,hx,rfl⟩:=hz;have:=h2 (rA k cl p b) (Fg hb);rw[hC b,hC s,<- OZ hx]at this;exact this
 .exact ach hK (h.keep s hs) ((h.pK.keeps hK).1 hg) hQ hsrt
variable{c:nU}
def BN.keep(hc:BN k G cl p c)(h:nT k G cl)(hK:bE k):eU k c.s c.t:=h.both hK hc.sG hc.tC
def BN.Hw(hc:BN k G cl p c)(h:nT k G cl)(hK:bE k)(hQ:fK k p):fK k c.p:=xE hK (hc.keep h hK) hQ hc.img
variable{s t:ae Int}{y:ae Clue}
def uS.img(h:nT k G cl)(hK:bE k)(hQ:fK k p)(hs:s∈G)(ht:jS k.decl.symbols.length cl t)(hx:ik (p.map (fw k s t)) x)(hy:uS k G cl p y):uS k G cl x y:=by
 have hst:=h.both hK hs ht;have ru:=xE hK hst hQ hx;have hz:=EZ h hK ru;have:=h.aok hK hQ hs ht hx hz.can;rw[hy.uniq this];exact hz.can
def uS.ark(h:nT k G cl)(hK:bE k)(hQ:fK k p)(hs:s∈G)(ht:jS k.decl.symbols.length cl t)(hx:ik (p.map (fw k s t)) x)(hy:uS k G cl p y):¬kX x y<0:=by
 have hcl:=h.pK.len;have hsrt:=Vm (p.map (fw k s (upTo' k.decl.symbols.length)));have hQs:=xE hK (h.keep s hs) hQ hsrt;have e:=h.img hK hQ hs ht hsrt hx;have h1:=Te hcl ht (fK.tN hQs);rw[<- e]at h1;have h2:=hy.least s hs _ ⟨_,hsrt,rfl⟩;exact Vk h2 h1
def arn{q:ae Clue}{d:nU}(h:nT k G cl)(hK:bE k)(hQ:fK k p)(hR:fK k q)(hc:BN k G cl p c)(hd:BN k G cl q d)(he:c.p=d.p)(hx:ik (p.map (fw k (bC (cz d.s) c.s) (bC (cz d.t) c.t))) x):x=q:=by
 have k1:=hc.keep h hK;have k2:=hd.keep h hK;have hi:=k2.inv hK;have pO:=hc.Hw h hK hQ;have hi1:=hc.img;rw[he]at pO hi1;have hsrt:=Vm (d.p.map (fw k (cz d.s) (cz d.t)));have e1:=an8 hK k2 hR hd.img hsrt;have e2:=an9 hK k1 hi hQ hi1 hsrt hx;rw[<- e2,e1]
end Go.Proofs.YtoilpafpgndilaaGreat
namespace Go.Proofs.YtoilpafpgndilaaGreat
open Tryz (prog)
open Go.Ideal Kd Canon
noncomputable def adC:iG:=⟨88,[(.pV 2 6)],(.seq (kO [kS 3 (.box 0 49),kS 6 (.new [vS,vS] 52)]) (.seq (kO [kS 13 (.gU 0 3),kS 14 (.fE 13),kM 15 1,kS 16 (.conv 60 3 15),kS 17 (.gU 0 3),kS 18 (.fE 17),kS 19 (.pR 18),kS 20 (.bin .rem 3 16 19),kS 21 (.jw 1 14 20),kS 22 (.fE 21),⟨⟨(some 23),none,(.build [vS,vS] [⟨0,⟨1,22⟩⟩])⟩,[]⟩,kS 7 (.new [vS,vS] 52),kN (.store 2 7 23)]) (.seq (.seq (kO [kS 24 (.gU 1 3),kS 25 (.fE 24),kS 26 (.pR 25),kS 27 (.mv (.const (iV 0)))]) (.block 0 (.loop (.seq (kO [kS 28 (.bin .lss 3 27 26)]) (.seq (.cond 28 .skip (.exit 0)) (.seq (.block 1 (.seq (kO [kM 29 27,kS 8 (.jm 29)]) (kO [kS 30 (.gU 1 7),kS 31 (.fE 30),kM 32 8,⟨⟨(some 33),none,(.Aj 3 1 [(iV 0)] [⟨0,⟨1,32⟩⟩])⟩,[]⟩,kS 34 (.append 3 1 8 31 33),kS 35 (.gU 1 7),kN (.store 1 35 34)]))) (kO [kS 36 (.bin .add 3 27 (.const (iV 1))),kM 27 36]))))))) (.seq (.seq (kO [kM 37 2,kS 38 (.pR 37),kS 39 (.mv (.const (iV 0)))]) (.block 2 (.loop (.seq (kO [kS 40 (.bin .lss 3 39 38)]) (.seq (.cond 40 .skip (.exit 2)) (.seq (.block 3 (.seq (kO [kS 41 (.jw 1 37 39),kS 42 (.fE 41),kS 10 (.jm 42)]) (.seq (.ops [43,44,45,46,47,48,49,50,51,52,53,54,55,56,11,12] [kM 43 10,kS 44 (.conv 5 3 43),kS 45 (.bin .quo 3 44 (.const (iV 16))),kS 46 (.gU 1 3),kS 47 (.fE 46),kS 48 (.pR 47),kS 49 (.bin .rem 3 45 48),kM 50 10,kS 51 (.conv 5 3 50),kS 52 (.bin .rem 3 51 (.const (iV 16))),kS 53 (.gU 1 3),kS 54 (.fE 53),kS 55 (.pR 54),kS 56 (.bin .rem 3 52 55),⟨⟨(some 11),none,(.jm 49)⟩,[⟨(some 54),none,(.fE 53)⟩]⟩,kS 12 (.jm 56)]) (.seq (kO [kS 57 (.gU 1 3),kS 58 (.fE 57),kM 59 11,kS 60 (.jw 1 58 59),kS 61 (.fE 60),kS 62 (.gU 1 3),kS 63 (.fE 62),kM 64 12,kS 65 (.jw 1 63 64),kS 66 (.fE 65),kS 67 (.bin .eql 3 61 66)]) (.cond 67 (.ops [68,69,70,71,72,73,74,75,76,77,78,79,80,81,82,83,84,85] [kS 68 (.gU 1 7),kS 69 (.fE 68),kM 70 11,kS 71 (.gU 1 7),kS 72 (.fE 71),kM 73 12,kS 74 (.gU 1 7),kS 75 (.fE 74),kM 76 12,kS 77 (.jw 1 75 76),kS 78 (.fE 77),kS 79 (.gU 1 7),kS 80 (.fE 79),kM 81 11,kS 82 (.jw 1 80 81),kS 83 (.fE 82),kS 84 (.jw 1 69 70),⟨⟨none,none,(.store 1 84 78)⟩,[⟨(some 72),none,(.fE 71)⟩]⟩,kS 85 (.jw 1 72 73),kN (.store 1 85 83)]) .skip))))) (kO [kS 86 (.bin .add 3 39 (.const (iV 1))),kM 39 86]))))))) (.seq (kO [kS 87 (.sH 2 7),kN (.store 2 6 87)]) .ret)))))⟩
def arw:mO prog 23=some adC:=s8
def zV:Enc Int:=⟨1,Unit,λx _=>[.int .u8 x],λ_ _=>[],λ_ _=>rfl⟩
def zW(l:ae Int)(i j:Nat):ae Int:=(l.set i (aH l (j:Int))).set j (aH l (i:Int))
def adx(l:ae Int)(i j:Nat):(zW l i j).length=l.length:=by unfold zW;rw[ku,ku]
variable{l:ae Int}{i:Nat}
def ady(h:i<l.length):aH l (i:Int)=l[i]:=iW (bG h)
variable{j:Nat}
def aro(hi:i<l.length)(hj:j<l.length):(zW l i j).Perm l:=by
 unfold zW;rw[ady hi,ady hj];exact List.set_set_perm hi hj
def arp(hi:i<l.length)(hj:j<l.length){v:Int}(v0:0<=v):aH (zW l i j) v=if v=(j:Int)then aH l (i:Int)else if v=(i:Int)then aH l (j:Int)else aH l v:=by
 unfold zW;have h1:=EJ (l:=l.set i (aH l (j:Int))) (s:=(j:Int)) (x:=aH l (i:Int)) (u:=v) s6 zp v0;have h2:=EJ (l:=l) (s:=(i:Int)) (x:=aH l (j:Int)) (u:=v) s6 s6 v0;rw[fM]at h1 h2;rw[h1,h2]
variable{cl:ae Int}{m:Nat}
def arq(h:jS m cl l){i j:Nat}(hi:i<m)(hj:j<m)(hc:aH cl (i:Int)=aH cl (j:Int)):jS m cl (zW l i j):=by
 have hl:=h.p.len;have hp:=aro (l:=l) (i:=i) (j:=j) s6 s6;refine⟨⟨by rw[adx,hl],λx hx=>h.p.dJ x (hp.mem_iff.1 hx),hp.nodup_iff.2 h.p.nd⟩,λv v0 v1=>?_⟩;rw[arp s6 s6 v0];split
 .rename_i e;rw[h.c _ s6 s6,e,hc]
 .split
  .rename_i e;rw[h.c _ s6 s6,e,hc]
  .exact h.c v v0 v1
def adz{G:ae (ae Int)}{turn:ae Int}{pick:Nat}{vg ja vt:ah}(hcl:cl.length=m)(hm:m<=4096)(hG:0<G.length)(Vn:G.length<=1000000)(hp:pick<65536)(ht:turn.length<=4096)(hb:∀x∈turn,0<=x/\x<256)(hm0:turn≠[]->0<m):
 aX prog (.func 23) [.agg ⟨[vg,ja]⟩,.int .u16 (pick:Int),vt] [] [] [aj (az ai) vg G,aj ai ja cl,aj zV vt turn] (λy:ah×ah×ae Int=>.agg ⟨[y.1,y.2.1]⟩) (λ_=>[])
  (λy=>[aj ai y.1 (G.getD (pick%G.length) []),aj ai y.2.1 y.2.2]) (λy=>jS m cl y.2.2):=by
 refine mq adC arw λB w0=>?_;refine gF (az ai) vg G λag cg eg=>?_;subst eg;refine gF ai ja cl λac cc ec=>?_;subst ec;refine gF zV vt turn λrP ct et=>?_;subst et;refine go ?_;intro b3 b6;refine gP b3 ?_;refine go ?_;refine(cZ rfl rfl (zz (k:=.i64) (m:=(pick:Int)) (by kernel_rfl:prog.underlying 60=some (.int .u16)) s8 rfl G4)).h ?_;refine go ?_;refine(cZ rfl rfl (Cx rfl rfl s6)).h ?_;rw[show((pick:Int)).tmod (G.length:Int)=((pick%G.length:Nat):Int)from(Int.ofNat_tmod pick G.length).symm];refine gX (az ai) (xs:=G) (k:=pick%G.length) (h1:=wu _ hG) λ_ _ x (vx:ah) hx=>?_;refine gF ai vx x λax cx ex=>?_;subst ex;have hxd:G.getD (pick%G.length) []=x:=gJ hx;rw[hxd];refine go ?_;intro b7;refine go ?_;refine lT ai ?_;rw[hcl];refine dV (λy:Nat×ah=>m - y.1) (λy=>[(27,iV (y.1:Int))]) (λy=>[pt b7 (.cells [.slice ax x.length cx,y.2]),ap ai y.2 ((upTo' m).take y.1)]) (λ_=>[]) (λy=>y.1<=m) (0,.slice none 0 0) (bM _) (hk:=s9) (body:=?_);rintro⟨j,v2⟩ hj;dsimp only at hj⊢;have rq:((upTo' m).take j).length=j:=by rw[fU,kK];omega
 refine aO ?_ ?_<;>intro h1
 .have hnx:(upTo' m)[j]? =some (j:Int):=by
   unfold upTo';rw[bU,oI s6];rfl
  refine go ?_;intro b33;refine go ?_;refine kY (xs:=(upTo' m).take j) ai (j:Int) () s6 (next:=λad=>?_);rw[<- fF hnx];refine go ?_;exact aU (j+1,.slice ad (((upTo' m).take j).length+1) (((upTo' m).take j).length+1)) (by show m - (j+1)<m - j;omega) (by show j+1<=m;omega)
 have jT:m=j:=s6
 subst jT;rw[xP AF];refine Da (E:=ai) (v:=v2) (xs:=upTo' m) λa2 hv=>?_;subst hv;rw[kK];refine go ?_;refine dV (λy:Nat×ae Int=>turn.length - y.1) (λy=>[(39,iV (y.1:Int))]) (λy=>[pt b7 (.cells [.slice ax x.length cx,.slice a2 m m]),ap ai (.slice a2 m m) y.2]) (λ_=>[]) (λy=>y.1<=turn.length/\jS m cl y.2) (0,upTo' m) ⟨bM _,jS.ident cl m⟩ (hk:=s9) (body:=?_);rintro⟨j,l⟩ ⟨hj,hC⟩;dsimp only at hj hC⊢;have hll:=hC.p.len;refine aO ?_ ?_<;>intro h1
 rotate_left
 .refine mD (A:=ap ai (.slice a2 m m) l) (fs:=[aj ai (.slice a2 m m) l]) jr (h:=?_);refine go ?_;exact gQ (.slice ax x.length cx,.slice a2 m m,l) hC
 refine gX zV (xs:=turn) (k:=j) λ_ _ x8 (_:Unit) h8=>?_;have hb8:=hb x8 (aT h8);obtain⟨xn,rfl⟩:=gV hb8.1;have hm1:0<m:=hm0 (λe=>by rw[e]at h8;cases h8);refine go ?_;refine(cZ rfl rfl (zz (k:=.i64) (m:=(xn:Int)) (by kernel_rfl:prog.underlying 5=some (.int .u8)) s8 rfl G4)).h ?_;refine go ?_;have hq1:((xn:Int)).tdiv 16=((xn/16:Nat):Int):=(Int.ofNat_tdiv xn 16).symm;have hq2:((xn/16:Nat):Int).tmod (m:Int)=((xn/16%m:Nat):Int):=(Int.ofNat_tmod (xn/16) m).symm;have hq3:((xn:Int)).tmod 16=((xn%16:Nat):Int):=(Int.ofNat_tmod xn 16).symm;have hq4:((xn%16:Nat):Int).tmod (m:Int)=((xn%16%m:Nat):Int):=(Int.ofNat_tmod (xn%16) m).symm;have hi1:xn/16%m<m:=wu _ hm1;have hk1:xn%16%m<m:=wu _ hm1;refine(cZ rfl rfl (Jh rfl rfl td (by rw[hq1];omega) (by rw[hq1];omega))).h ?_;rw[hq1];refine go ?_;refine(cZ rfl rfl (Cx rfl rfl s6)).h ?_;rw[hq2];refine go ?_;refine(cZ rfl rfl (zz (k:=.i64) (m:=(xn:Int)) (by kernel_rfl:prog.underlying 5=some (.int .u8)) s8 rfl G4)).h ?_;refine go ?_;refine(cZ rfl rfl (Cx rfl rfl td)).h ?_;rw[hq3];refine go ?_;refine(cZ rfl rfl (Cx rfl rfl s6)).h ?_;rw[hq4];generalize xn/16%m=i at *;generalize xn%16%m=kk at *;refine go ?_;intro _ _ u hu;refine go ?_;intro _ _ w hw;have UM:=iW hu;have hwg:=iW hw;refine aO ?_ ?_<;>intro h2
 rotate_left
 .refine go ?_;exact aU (j+1,l) GF ⟨by show j+1<=_;omega,hC⟩
 have hC2:=arq hC hi1 hk1 (by rw[UM,hwg];exact h2);have QK:l[kk]? =some (aH l (kk:Int)):=by
  have:=oQ (p:=l) (c:=(kk:Int)) s6 s6
  rwa [fM]at this
 have hgi:l[i]? =some (aH l (i:Int)):=by
  have:=oQ (p:=l) (c:=(i:Int)) s6 s6
  rwa [fM]at this
 refine ZB (v:=.slice a2 m m) (xs:=l) s6 λbb f pre hf ev=>?_;obtain rfl:a2=some ⟨bb,pre.length,some f⟩:=by injection ev
 refine go ?_;refine ol (b:=bb) (o:=pre.length+kk*1) (cs:=pre++l.map iV) (iV (aH l (kk:Int))) (JI QK) ?_;refine go ?_;refine ol (b:=bb) (o:=pre.length+i*1) (cs:=pre++l.map iV) (iV (aH l (i:Int))) (JI hgi) ?_;refine go ?_;refine(Rk (b:=bb) (o:=pre.length+i*1) (cs:=pre++l.map iV) (vs:=[iV (aH l (kk:Int))]) (c:=pre++(l.set i (aH l (kk:Int))).map iV) rfl rfl rfl rfl rfl zd (by rw[LK _ _ _ B7,JJ]) (by repeat (first|exact Cy|refine Em rfl zd rfl rfl ?_))).h ?_;refine go ?_;refine jN (b:=bb) (o:=pre.length+kk*1) (cs:=pre++(l.set i (aH l (kk:Int))).map iV) (v:=iV (aH l (i:Int))) (cs':=pre++(zW l i kk).map iV) (by rw[JJ];rfl) (by rw[eF,aR,ku];omega) ?_;refine ZC (b:=bb) (f:=f) (m:=m) (pre:=pre) (xs:=zW l i kk) (by rw[adx];exact hll.symm) hf ?_;refine go ?_;exact aU (j+1,zW l i kk) GF ⟨by show j+1<=_;omega,hC2⟩
end Go.Proofs.YtoilpafpgndilaaGreat
namespace Go.Proofs.YtoilpafpgndilaaGreat
open Tryz (prog)
open Go.Ideal Kd Canon
section
variable {P:Program} {B:ae Nat} {w0:Wd} {kl:ae OA} {F:ae aI} {K:KO} {ds:ae Tmp} {rest:ae bN} {n:Nat} {l:qr} {D:ae Deferred} {pm:ak FrameMode} {ro:ak Nat} {g:ak (Tmp×Bool)}
def art{g:ak (Tmp×Bool)}(hg:F4 l g=true):(act n l D pm ro).wants g=some false:=by
 exact fh
def Vo{m:Nat}{x y:ay}{r0:jc}(hoff:F4 l r0.guard=true)(h:R (λh=>aM P ds (⟨⟨none,g,.store m x y⟩,[]⟩::rest) (act n l D pm ro) h K) B w0 kl F):
 R (λh=>aM P ds (⟨⟨none,g,.store m x y⟩,[r0]⟩::rest) (act n l D pm ro) h K) B w0 kl F:=λw s=>by
 have hh:=h w s;cases hh with
 |skip hw h1=>exact .skip hw h1
 |mg hw v h' hr hs h1=>
  refine .mg hw v h' hr (λr hr2 hwr=>?_) h1;obtain rfl:=bA.1 hr2;exact absurd (art hoff) hwr
 |call hw q hq M hc hs hok jC=>cases hq
 |Qz hw ho=>cases ho
 |recoverD hw ho=>cases ho
 |panic hw x ho=>cases ho
 |defer hw f args ho=>cases ho
 |next hw x ho=>cases ho
end
structure aru(k:aQ)(p:List Clue)(turn:List Int)(G:List (List Int))(cl:List Int):Prop where
 hS:qg k
 hK:bE k
 qY:nT k G cl
 Vp:G.length<=80
 t20:turn.length<=20
 p60:p.length<=60
 pv:∀g∈p,g.values.length<=20
structure arv where
 v1:Value
 v2:Value
 G:List (List Int)
 cl:List Int
 b:Bool
variable{k:aQ}{p:ae Clue}
def Vq{turn:ae Int}{vh vs vr vc vu gh gc vn vl vp vt:ah}(hB:Bv k):
 aX prog (.func 25) [.agg ⟨jO k vh vs vr vc vu gh gc vn vl⟩,.agg ⟨[vp]⟩,vt] [] [] (aj aY vp p::aj zV vt turn::iT k vh vs vr vc vu gh gc vn vl []) (λy:arv=>.tuple ⟨[.agg ⟨[y.v1,y.v2]⟩,.bool y.b]⟩) (λ_=>[])
  (λy=>[aj (az ai) y.v1 y.G,aj ai y.v2 y.cl]) (λy=>y.b=true->aru k p turn y.G y.cl):=by
 refine gB 25 λB w0=>?_;dsimp only[iT];refine gF zV vt turn λatt ctt ett=>?_;subst ett;refine go ?_;intro b3 b4 b6;refine gC (aqM (k:=k) hB) λb hb=>?_;cases b with
 |false=>
  exact cJ
 |true=>
 obtain⟨oC,_,_⟩:=hb rfl;clear hb;have hS:=qg.ofE hB oC;refine gC (adp (va:=vp) (xs:=p)) λb hb=>?_;cases b with
 |false=>
  exact cJ
 |true=>
 obtain⟨arx,hpv⟩:=hb rfl;clear hb;refine aO ?_ ?_<;>intro auh
 .exact cJ
 refine gC (aqy (k:=k) hS) λy hy=>?_;obtain⟨v1,v2,G,cl,e⟩:=y;dsimp only at hy⊢;refine gF (az ai) v1 G λa1 c1 e1=>?_;subst e1;refine gF ai v2 cl λa2 c2 e2=>?_;subst e2;refine go ?_;intro b8;refine gH ?_ ?_<;>intro h1
 .exact ez
 obtain rfl:=h1;refine gH ?_ ?_<;>intro h2
 .exact ez
 refine gH ?_ ?_<;>intro h3
 .exact ez
 refine go ?_;refine go ?_;have hK:bE k:=Classical.byContradiction λh=>by have:=hy.nk h;omega
 have hg:=hy.grk rfl;exact gQ ⟨.slice a1 G.length c1,.slice a2 cl.length c2,G,cl,decide (0<(cl.length:Int))⟩ (λ_=>⟨hS,hK,hg,(by show G.length<=80;omega),s6,arx,hpv⟩)
def yT(h:fK k p):short p:=λg hg=>by have:=ou.NW (h.right g hg);omega
def adA(h:fK k p):xB p:=⟨by have:=h.len;omega,λg hg=>by have:=ou.NW (h.right g hg);omega⟩
variable{G:ae (ae Int)}{cl:ae Int}
def nT.Vr(h:nT k G cl)(hK:bE k):∀s∈G,s.length=k.grid.cells.length:=λs hs=>(h.qY.perm s hs).len
def nT.pos(h:nT k G cl):0<G.length:=Pz h.qY.one
def BN.has{c:nU}(hc:BN k G cl p c)(h:nT k G cl):Vg G cl c.s c.t:=by
 have hcl:=h.pK.len;have hl:=hc.tC.p.len;exact⟨by rw[hcl];exact hc.tC.p,λi x hx=>by
  have hil:=(aV.1 hx).1;have:=hc.tC.c (i:Int) s6 s6;rw[iW hx]at this;exact this.symm,hc.sG⟩
def ary{s t:ae Int}(h:nT k G cl)(hs:s∈G)(ht:jS k.decl.symbols.length cl t):Vg G cl s t:=by
 have hcl:=h.pK.len;have hl:=ht.p.len;exact⟨by rw[hcl];exact ht.p,λi x hx=>by
  have hil:=(aV.1 hx).1;have:=ht.c (i:Int) s6 s6;rw[iW hx]at this;exact this.symm,hs⟩
end Go.Proofs.YtoilpafpgndilaaGreat
namespace Go.Proofs.YtoilpafpgndilaaGreat
open Tryz (prog)
open Go.Ideal Kd
abbrev Vs:ae ah:=[.slice none 0 0,.slice none 0 0]
def O3{v:ah}{e:Int}:qR prog (.func 60) [v,iV e] [] [] [] (λy:Bool=>if y=true then .ok v else .gI (rZ 230)) (λ_=>[]) (λ_=>[]) (λy=>y=true↔e=0):=by
 refine yC _ (qo 60) λB w0=>?_;refine aO ?_ ?_<;>intro h1
 .refine go ?_;refine Er ?_;refine go ?_;exact CF false (hv:=rfl) (hp:=⟨(λh=>by cases h),λh=>absurd h h1⟩)
 .refine go ?_;exact CB true (hv:=rfl) (hp:=⟨λ_=>kv.1 h1,λ_=>rfl⟩)
variable{b:Nat}
def arz:Gg prog (.func 59) [ptr' b] [] .returning [] [] (λ_:Unit=>.ok (.tuple ⟨[]⟩)) (λ_=>.returning) (λ_=>[]) (λ_=>[]) (λ_=>True):=by
 refine MW _ (qo 59) λB w0=>?_;refine go ?_;refine MX (v:=.nilIface) (m':=.returning) rfl ?_;refine go ?_;refine(cZ (v:=.bool false) rfl rfl (λh=>by
  exact eI)).h ?_
 exact qe
def arA:Gg prog (.func 59) [ptr' b] [] (.panicking (rZ 230)) [pt b (.cells [iV 0])] [] (λ_:Unit=>.ok (.tuple ⟨[]⟩)) (λ_=>.panicking [{v:=.iface 43 (iV 230),recovered:=true}])
 (λ_=>[pt b (.cells [iV 230])]) (λ_=>[]) (λ_=>True):=by
 refine MW _ (qo 59) λB w0=>?_;refine go ?_;refine MX (v:=.iface 43 (iV 230)) (m':=.panicking [{v:=.iface 43 (iV 230),recovered:=true}]) rfl ?_;refine go ?_;refine(cZ (v:=.bool true) rfl rfl (λh=>by
  show(match l7 prog .neq 20 (.tmp 4) (.const .nilIface) (.iface 43 (iV 230)) .nilIface with|some v=>some (v,h)|none=>none)=_;rw[show l7 prog .neq 20 (.tmp 4) (.const .nilIface) (.iface 43 (iV 230)) .nilIface=some (.bool true)by kernel_rfl])).h ?_
 refine go ?_;exact M0 () (hv:=rfl) (hm:=rfl) (hp:=trivial)
structure Vt where
 ok:Bool
 c:Value
 s:Value
abbrev Hy(y:Vt):ah:=.tuple ⟨[.agg ⟨cond y.ok [y.c,y.s] Vs⟩,iV (cond y.ok 0 230)]⟩
abbrev BP(x z:ae Int)(y:Vt):ae aI:=cond y.ok [aj ai y.c x,aj ai y.s z] []
section
variable {B:ae Nat} {w0:Wd} {kl Dv k2r:ae OA} {F:ae aI} {l:qr} {b4 b5:Nat} {n i4 i5:Nat} {code:iG} {x z:ae Int} {pr:Vt->Prop}
def O4(hc:code.results=[.pV 2 i4,.cell1 i5])(hp:pr ⟨false,.nilFunc,.nilFunc⟩)(h2:lk l i4=ptr' b4)(h3:lk l i5=ptr' b5)(hk:aB (pt b5 (.cells [iV 0])) kl Dv)(hk2:aB (pt b4 (.cells Vs)) Dv k2r):
 R (λh=>sU prog code (A9 B w0 (λy=>.ok (Hy y)) (λ_=>[]) (BP x z) pr) (.panic (rZ 230)) (act n l [{target:=.fn (.func 59) ⟨[]⟩,args:=⟨[ptr' b5]⟩}] none none) h) B w0 kl F:=by
 refine Es (m:=.panicking (rZ 230)) ?_;refine MZ (k1:=[pt b5 (.cells [iV 0])]) (bz:=Dv) (eX:=λ_=>[pt b5 (.cells [iV 230])]++Dv) (F2:=λ_=>F) (arA (b:=b5)) (λy v _ _=>?_) (λy ch _ hc=>by cases hc) (hk:=.cons hk .nil) (hF:=.nil) (hk2:=λ_=>dO.app) (hF2:=λ_=>dO.nil);show RL _ _ _ _ .returning _ _ _ _ _;refine M3 (bz:=[pt b5 (.cells [iV 230])]++Dv) (vs:=[.agg ⟨Vs⟩,iV 230]) ⟨false,.nilFunc,.nilFunc⟩ rfl hp (hr:=?_) (hk:=.nil) (hF:=.nil);rw[hc];exact .pV h2 (.there hk2) rfl (.cell1 h3 .here rfl .nil)
def adB{vc vs:ah}{o:Out}(hc:code.results=[.pV 2 i4,.cell1 i5])(ho:wJ o=some .returning)(hp:pr ⟨true,vc,vs⟩)(hF:∀w,(∀f∈F,f.p w)->∀f∈BP x z ⟨true,vc,vs⟩,f.p w)(h2:lk l i4=ptr' b4)(h3:lk l i5=ptr' b5)(hk:aF [pt b5 (.cells [iV 0]),pt b4 (.cells [vc,vs])] kl Dv):
 R (λh=>sU prog code (A9 B w0 (λy=>.ok (Hy y)) (λ_=>[]) (BP x z) pr) o (act n l [{target:=.fn (.func 59) ⟨[]⟩,args:=⟨[ptr' b5]⟩}] none none) h) B w0 kl F:=by
 refine Es (m:=.returning) ?_ ho;refine MZ (k1:=[]) (bz:=kl) (eX:=λ_=>kl) (F2:=λ_=>F) (arz (b:=b5)) (λ_ v _ _=>?_) (λ_ ch _ hc=>by cases hc) (hk:=.nil) (hF:=.nil) (hk2:=λ_=>dO.nil) (hF2:=λ_=>dO.nil);show RL _ _ _ _ .returning _ _ _ _ _;intro w s;have s':St B w0 ([pt b5 (.cells [iV 0]),pt b4 (.cells [vc,vs])]++Dv) (BP x z ⟨true,vc,vs⟩) w:=by
  exact ox
 refine M3 (F:=BP x z ⟨true,vc,vs⟩) (bz:=[pt b5 (.cells [iV 0]),pt b4 (.cells [vc,vs])]++Dv) (vs:=[.agg ⟨[vc,vs]⟩,iV 0]) ⟨true,vc,vs⟩ rfl hp (hr:=?_) (hk:=.nil) (hF:=?_) w s'
 .rw[hc];exact .pV h2 (.there .here) rfl (.cell1 h3 .here rfl .nil)
 .exact n9
end
variable{s t:ae Int}{vc vs:ah}
def arC{s2 t2:ae Int}{Oc vs2:ah}(h1:s2.length<2^63)(h2:s.length<2^63)(h3:t2.length<2^63)(h4:t.length<2^63):
 aX prog (.func 29) [.agg ⟨[Oc,vs2]⟩,.agg ⟨[vc,vs]⟩] [] [] [aj ai Oc s2,aj ai vs2 t2,aj ai vc s,aj ai vs t] Hy (λ_=>[]) (BP (bC s2 s) (bC t2 t)) (λy=>y.ok=true↔EQ s2 s/\EQ t2 t):=by
 refine qR.toC _ ?_ (λ_ _=>rfl);refine yC _ (qo 29) λB w0=>?_;refine go ?_;intro b2 b3 b4 b5;refine go ?_;refine Ru ?_;refine gC (ab2 (a:=s2) (b:=s) h1 h2) λy1 hy1=>?_;obtain⟨v12,e12⟩:=y1;obtain⟨hy1,hn1⟩:=hy1;dsimp only at hy1 hn1⊢;refine go ?_;refine sZ (O3 (v:=v12) (e:=e12)) (λy v hy e=>?_) (λy ch hy e=>?_)
 rotate_left
 .cases y with
  |true=>cases e
  |false=>
   injection e with e;subst e;have hno:¬EQ s2 s:=λh=>by have:=hy.2 (hy1.2 h);cases this
   exact fp
 cases y with
 |false=>cases e
 |true=>
 injection e with e;subst e;have he:=hy.1 rfl;subst he;have hok1:=hy1.1 rfl;clear hy hy1 hn1;refine eD (aj ai v12 (bC s2 s)) (λw hw=>hw (nQ ((0:Int)=0) (aj ai v12 (bC s2 s))) s7 rfl) ?_;refine gC (ab2 (a:=t2) (b:=t) h3 h4) λy1 hy1=>?_;obtain⟨v20,e20⟩:=y1;obtain⟨hy1,hn1⟩:=hy1;dsimp only at hy1 hn1⊢;refine go ?_;refine sZ (O3 (v:=v20) (e:=e20)) (λy v hy e=>?_) (λy ch hy e=>?_)
 rotate_left
 .cases y with
  |true=>cases e
  |false=>
   injection e with e;subst e;have hno:¬EQ t2 t:=λh=>by have:=hy.2 (hy1.2 h);cases this
   exact fk
 cases y with
 |false=>cases e
 |true=>
 injection e with e;subst e;have he:=hy.1 rfl;subst he;have hok2:=hy1.1 rfl;clear hy hy1 hn1;refine eD (aj ai v20 (bC t2 t)) (λw hw=>hw (nQ ((0:Int)=0) (aj ai v20 (bC t2 t))) s7 rfl) ?_;refine gF ai v12 (bC s2 s) λa1 c1 J7=>?_;subst J7;refine gF ai v20 (bC t2 t) λa2 c2 Vu=>?_;subst Vu;refine go ?_;refine adB (vc:=.slice a1 (bC s2 s).length c1) (vs:=.slice a2 (bC t2 t).length c2) rfl rfl ⟨λ_=>⟨hok1,hok2⟩,λ_=>rfl⟩ (λw h f hf=>?_) rfl rfl s9;have hf:f∈[aj ai (.slice a1 (bC s2 s).length c1) (bC s2 s),aj ai (.slice a2 (bC t2 t).length c2) (bC t2 t)]:=hf;rcases bH.1 hf with rfl|hf
 .exact h _ s7
 .exact rI
def arD(h1:s.length<2^63)(h2:t.length<2^63):
 aX prog (.func 28) [.agg ⟨[vc,vs]⟩] [] [] [aj ai vc s,aj ai vs t] Hy (λ_=>[]) (BP (cz s) (cz t)) (λy=>y.ok=true↔ER s/\ER t):=by
 refine qR.toC _ ?_ (λ_ _=>rfl);refine yC _ (qo 28) λB w0=>?_;refine go ?_;intro b1 b2 b3;refine go ?_;refine Ru ?_;refine gC (ab3 (p:=s) h1) λy1 hy1=>?_;obtain⟨v12,e12⟩:=y1;obtain⟨hy1,hn1⟩:=hy1;dsimp only at hy1 hn1⊢;refine go ?_;refine sZ (O3 (v:=v12) (e:=e12)) (λy v hy e=>?_) (λy ch hy e=>?_)
 rotate_left
 .cases y with
  |true=>cases e
  |false=>
   injection e with e;subst e;have hno:¬ER s:=λh=>by have:=hy.2 (hy1.2 h);cases this
   exact fp
 cases y with
 |false=>cases e
 |true=>
 injection e with e;subst e;have he:=hy.1 rfl;subst he;have hok1:=hy1.1 rfl;clear hy hy1 hn1;refine eD (aj ai v12 (cz s)) (λw hw=>hw (nQ ((0:Int)=0) (aj ai v12 (cz s))) s7 rfl) ?_;refine gC (ab3 (p:=t) h2) λy1 hy1=>?_;obtain⟨v20,e20⟩:=y1;obtain⟨hy1,hn1⟩:=hy1;dsimp only at hy1 hn1⊢;refine go ?_;refine sZ (O3 (v:=v20) (e:=e20)) (λy v hy e=>?_) (λy ch hy e=>?_)
 rotate_left
 .cases y with
  |true=>cases e
  |false=>
   injection e with e;subst e;have hno:¬ER t:=λh=>by have:=hy.2 (hy1.2 h);cases this
   exact fk
 cases y with
 |false=>cases e
 |true=>
 injection e with e;subst e;have he:=hy.1 rfl;subst he;have hok2:=hy1.1 rfl;clear hy hy1 hn1;refine eD (aj ai v20 (cz t)) (λw hw=>hw (nQ ((0:Int)=0) (aj ai v20 (cz t))) s7 rfl) ?_;refine gF ai v12 (cz s) λa1 c1 J7=>?_;subst J7;refine gF ai v20 (cz t) λa2 c2 Vu=>?_;subst Vu;refine go ?_;refine adB (vc:=.slice a1 (cz s).length c1) (vs:=.slice a2 (cz t).length c2) rfl rfl ⟨λ_=>⟨hok1,hok2⟩,λ_=>rfl⟩ (λw h f hf=>?_) rfl rfl s9;have hf:f∈[aj ai (.slice a1 (cz s).length c1) (cz s),aj ai (.slice a2 (cz t).length c2) (cz t)]:=hf;rcases bH.1 hf with rfl|hf
 .exact h _ s7
 .exact rI
