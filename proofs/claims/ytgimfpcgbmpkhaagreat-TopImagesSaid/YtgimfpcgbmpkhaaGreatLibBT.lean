/- Part. -/
import Derived.Test.YtgimfpcgbmpkhaaGreatLibMT
set_option linter.all false
set_option maxRecDepth 10000
set_option maxHeartbeats 4000000
namespace Go.Proofs.YtgimfpcgbmpkhaaGreat
open Tryz (prog)
open Go.Ideal Kd Canon Gph
variable{r:bF}{vals:ae Int}{vc v1 v2 vv:ah}
def arh(h:r.fV≠qI->0<vals.length):dO prog 225 [.agg ⟨[vc,vv]⟩,.agg ⟨jf r v1 v2⟩] [ay aj vv vals] (iV (C8 r vals)):=by
 refine gB 225 λB w0=>?_;refine go ?_;intro b2 b3;refine go ?_;refine qW (p:=r.fV=qI) yW (λh1=>?_) (λh1=>?_)
 .have h0:=h h1;refine go ?_;intro _ _ y hy;refine aZ ?_;unfold C8;rw[if_neg h1,Ii hy];rfl
 .refine aZ ?_;unfold C8;rw[if_pos h1];rfl
def adN{most:Int}(h:r.fV≠qI->0<vals.length):dO prog 191 [.agg ⟨[vc,vv]⟩,.agg ⟨jf r v1 v2⟩,iV most] [ay aj vv vals] (.tuple ⟨[iV (ry r vals most).1,iV (ry r vals most).2]⟩):=by
 refine gB 191 λB w0=>?_;refine go ?_;intro b3 b4;refine gC (arh (r:=r) (vals:=vals) (vc:=vc) (vv:=vv) (v1:=v1) (v2:=v2) h) λ_ _=>?_;refine aK ?_ ?_<;>intro h1
 .refine aZ ?_;unfold ry;rw[if_pos h1];rfl
 refine aK ?_ ?_<;>intro h2
 .refine go ?_;refine(dx rfl rfl (Zh rfl rfl)).h ?_;refine aZ ?_;unfold ry;rw[if_neg h1,if_pos h2];rfl
 refine aZ ?_;unfold ry;rw[if_neg h1,if_neg h2];rfl
abbrev Iz(k s o lo hi:Int)(vr:ah):ah:=.agg ⟨[iV k,.slice none 0 0,iV s,iV o,iV lo,iV hi,vr,iV 0,iV 0]⟩
variable{b:Nat}
def ari{k:Int}:aY prog (.func 190) [.agg ⟨jf r v1 v2⟩,.agg ⟨[vc,vv]⟩] [ptr' b] [] [aX b 0 [iV k]] (λ_:Unit=>Iz k r.set r.other r.n 0 (.slice none 0 0)) (λ_=>[]) (λ_=>[]) (λ_=>True):=by
 refine gB 190 λB w0=>?_;refine go ?_;intro b3 b4 b5;exact dH
def Fj{k:Int}:aY prog (.func 111) [iV k] [] [] [] (λb:Nat=>.func (.func 190) #[] #[ptr' b]) (λ_=>[]) (λb=>[aX b 0 [iV k]]) (λ_=>True):=by
 refine gB 111 λB w0=>?_;refine go ?_;intro b1;refine go ?_;refine gP b1 ?_;exact gQ b1 trivial
variable{cells:ae Int}
def arj(h:r.fV≠qI->0<vals.length):dO prog 112 [.agg ⟨jf r v1 v2⟩,.agg ⟨[vc,vv]⟩] [ay aj vc cells,ay aj vv vals] (Iz 2 r.set 0 (ry r vals cells.length).1 (ry r vals cells.length).2 (.slice none 0 0)):=by
 refine gB 112 λB w0=>?_;refine go ?_;intro b2 b3 b4;refine gC (adN (r:=r) (vals:=vals) (vc:=vc) (vv:=vv) (v1:=v1) (v2:=v2) (most:=(cells.length:Int)) h) λ_ _=>?_;exact dH
def ark(h:r.fV≠qI->0<vals.length):dO prog 113 [.agg ⟨jf r v1 v2⟩,.agg ⟨[vc,vv]⟩] [ay aj vv vals] (Iz 3 0 0 (ry r vals 65536).1 (ry r vals 65536).2 (.slice none 0 0)):=by
 refine gB 113 λB w0=>?_;refine go ?_;intro b2 b3 b4;refine gC (adN (r:=r) (vals:=vals) (vc:=vc) (vv:=vv) (v1:=v1) (v2:=v2) (most:=65536) h) λ_ _=>?_;exact dH
def arl:dO prog 114 [.agg ⟨jf r v1 v2⟩,.agg ⟨[vc,vv]⟩] [ay aj vv vals] (Iz 5 r.set 0 0 0 vv):=by
 refine gB 114 λB w0=>?_;refine gF aj vv vals λav cv K7=>?_;subst K7;refine go ?_;intro b2 b3 b4;exact dH
def arn(h0:0<vals.length)(hv:∀x∈vals,0<=x/\x<16):dO prog 115 [.agg ⟨jf r v1 v2⟩,.agg ⟨[vc,vv]⟩] [ay aj vv vals] (Iz 2 ((1<<<(vals.getD 0 0).toNat:Nat):Int) 0 1 1 (.slice none 0 0)):=by
 refine gB 115 λB w0=>?_;refine go ?_;intro b2 b3 b4;refine go ?_;intro _ _ y hy;have hyv:=hv y (aV hy);obtain⟨n,rfl⟩:=dW hyv.1;have hlt:(1:Nat)<<<n<2^63:=by
  rw[Nat.one_shiftLeft];exact oZ (Mk s6 (show n<16 by omega)) tg
 refine q_p (SS (a:=1) (b:=n) rfl rfl s6 hlt) ?_;refine aZ ?_;rw[Ii hy,fI];rfl
structure Lx where
 b1:Nat
 b4:Nat
 b6:Nat
 b7:Nat
 b8:Nat
 b9:Nat
 b10:Nat
abbrev Fp(b:Nat):ah:=.func (.func 190) #[] #[ptr' b]
abbrev Wo(y:Lx):ae ah:=[iV 0,iV 0,.nilFunc,iV (-1),iV 2,Fp y.b1,iV (-1),iV 0,.func (.func 112) #[] #[],iV (-1),iV 0,.func (.func 113) #[] #[],
 iV (-1),iV 2,Fp y.b4,iV (-1),iV 0,.func (.func 114) #[] #[],iV 6,iV 0,Fp y.b6,iV 6,iV 0,Fp y.b7,iV 6,iV 0,Fp y.b8,iV 7,iV 0,Fp y.b9,iV 7,iV 0,Fp y.b10,iV 0,iV 0,.func (.func 115) #[] #[]]
abbrev adO(y:Lx):ae aI:=[aX y.b1 0 [iV 1],aX y.b4 0 [iV 4],aX y.b6 0 [iV 1],aX y.b7 0 [iV 6],aX y.b8 0 [iV 7],aX y.b9 0 [iV 8],aX y.b10 0 [iV 9]]
def aro:aY prog (.func 30) [] [] [] [] (λy:Lx=>.agg ⟨Wo y⟩) (λ_=>[]) adO (λ_=>True):=by
 refine gB 30 λB w0=>?_;refine go ?_;intro b0;refine fH (Fj (k:=1)) (next:=λb1 _=>?_);refine gC (Fj (k:=4)) λb4 _=>?_;refine gC (Fj (k:=1)) λb6 _=>?_;refine gC (Fj (k:=6)) λb7 _=>?_;refine gC (Fj (k:=7)) λb8 _=>?_;refine gC (Fj (k:=8)) λb9 _=>?_;refine gC (Fj (k:=9)) λb10 _=>?_;dsimp only[List.cons_append,List.nil_append];refine go ?_;exact gQ ⟨b1,b4,b6,b7,b8,b9,b10⟩ trivial
structure Wp(p:List Clue)(t:Clue)(y:Nat×Bool):Prop where
 le:y.1<=p.length
 lo:∀(j:Nat) g,j<y.1->p[j]? =some g->dV g t<0
 hi:∀(j:Nat) g,y.1<=j->p[j]? =some g->¬dV g t<0
 is:y.2=true↔∃g,p[y.1]? =some g/\dV g t=0
def Qo(p:ae Clue):Prop:=∀(i j:Nat) a b,i<j->p[i]? =some a->p[j]? =some b->dV a b<0
variable{p:ae Clue}
def arp{v vt:ah}{t:Clue}(hl:p.length<4611686018427387904)(hs:Qo p):
 fC prog 117 [v,tK t vt,.func (.func 110) #[] #[]] [ay bU v p] (λy:Nat×Bool=>.tuple ⟨[iV (y.1:Int),.bool y.2]⟩) (Wp p t):=by
 refine gB 117 λB w0=>?_;refine go ?_;intro b4;refine gL (λy:Nat×Nat=>y.2 - y.1) (λy=>[(9,iV (y.1:Int)),(10,iV (y.2:Int))]) (λy=>y.1<=y.2/\y.2<=p.length/\(∀(j:Nat) g,j<y.1->p[j]? =some g->dV g t<0)/\(∀(j:Nat) g,y.2<=j->p[j]? =some g->¬dV g t<0)) (0,p.length) ⟨bI _,bG _,λj x hj=>by omega,λj x hj hx=>by have:=(bz.1 hx).1;omega⟩ ?_;rintro⟨a,b⟩ ⟨hab,hb,hlo,hhi⟩;dsimp only at hab hb hlo hhi⊢;refine aK ?_ ?_<;>intro h1
 .have Eo:a<=(a+b)>>>1/\(a+b)>>>1<b:=by
   rw[Me];omega
  generalize hm:(a+b)>>>1=m at Eo;refine go ?_;rw[show(a:Int)+(b:Int)=((a+b:Nat):Int)by omega];refine(dx rfl rfl (xA (k:=.u64) (m:=((a+b:Nat):Int)) (by kernel_rfl:prog.underlying 3=some (.int .i64)) s8 rfl (OC s6))).h ?_;refine(dx rfl rfl (Tv (a:=a+b) (b:=1) rfl rfl s6)).h ?_;rw[hm];refine(dx rfl rfl (xA (k:=.i64) (m:=(m:Int)) (by kernel_rfl:prog.underlying 71=some (.int .u64)) s8 rfl (wrapN s6))).h ?_;refine gX bU (xs:=p) λ_ _ x (vx:ah) hx=>?_;refine gC (K6 (a:=x) (b:=t) (va:=vx) (vb:=vt)) λ_ _=>?_;refine aK ?_ ?_<;>intro h2
  .refine go ?_;refine aW (m+1,b) AS ⟨by show m+1<=b;omega,hb,λj u hj hu=>?_,hhi⟩;by_cases e:j=m
   .subst e;rw[hx]at hu;cases hu;exact h2
   .exact Hg (hs j m u x (by have:j<m+1:=hj;omega) hu hx) h2
  .refine go ?_;refine aW (a,m) AT ⟨by show a<=m;omega,by show m<=_;omega,hlo,λj u hj hu=>?_⟩;by_cases e:j=m
   .subst e;rw[hx]at hu;cases hu;exact h2
   .exact λh3=>h2 (Hg (hs m j x u (by have:m<=j:=hj;omega) hx hu) h3)
 have hba:b=a:=s6
 subst hba;refine gH ?_ ?_<;>intro h2
 .have hn:p[b]? =none:=fT s6;refine go ?_;exact gQ (b,false) ⟨by show b<=_;omega,hlo,hhi,by show false=true↔∃g,p[b]? =some g/\_;rw[hn];simp⟩
 refine gX bU (xs:=p) λ_ _ x (vx:ah) hx=>?_;refine gC (K6 (a:=x) (b:=t) (va:=vx) (vb:=vt)) λ_ _=>?_;refine go ?_;refine gQ (b,decide (dV x t=0)) ⟨by show b<=_;omega,hlo,hhi,?_⟩;show decide (dV x t=0)=true↔∃g,p[b]? =some g/\dV g t=0;rw[hx,lV];exact⟨λh=>⟨x,rfl,h⟩,λ⟨g,h1,h2⟩=>by cases h1;exact h2⟩
variable{n:Nat}
def Wp.find{c:Int}{y:Nat×Bool}(hs:Qo p)(h:Wp p ⟨c,(n:Int),[]⟩ y):(y.2=true->∃g,p[y.1]? =some g/\tN p c (n:Int)=some g.values)/\(y.2=false->tN p c (n:Int)=none):=by
 have hz:∀g:Clue,dV g ⟨c,(n:Int),[]⟩=0↔g.aN=c/\g.at_=(n:Int):=λg=>by
  unfold dV;simp only[ww];have h1:=uH.zero g.aN c;have h2:=uH.zero g.at_ (n:Int);by_cases e:dB g.aN c=0
  .rw[if_neg wg];by_cases e2:dB g.at_ (n:Int)=0
   .rw[if_neg (by simpa using e2)];exact⟨λ_=>⟨h1.1 e,h2.1 e2⟩,λ_=>rfl⟩
   .rw[if_pos e2];exact⟨λh=>absurd h e2,λh=>absurd (h2.2 h.2) e2⟩
  .rw[if_pos e];exact⟨λh=>absurd h e,λh=>absurd (h1.2 h.1) e⟩
 have arq:∀(i j:Nat) a b,p[i]? =some a->p[j]? =some b->dV a ⟨c,(n:Int),[]⟩=0->dV b ⟨c,(n:Int),[]⟩=0->i=j:=by
  intro i j a b ha hb h1 h2;have e1:=(hz a).1 h1;have e2:=(hz b).1 h2;rcases QN i j with hl|hl|hl
  .have:=tL.1 (hs i j a b hl ha hb);omega
  .exact hl
  .have:=tL.1 (hs j i b a hl hb ha);omega
 constructor
 .intro hy;obtain⟨g,hg,h0⟩:=h.is.1 hy;refine⟨g,hg,?_⟩;unfold tN;cases hf:p.find? (λg=>decide (g.aN=c/\g.at_=(n:Int)))with
  |none=>
   have:=QK.1 hf g (aV hg);exact absurd (eB ((hz g).1 h0)) this
  |some g2=>
   have h2':=QL hf;have h2:g2.aN=c/\g2.at_=(n:Int):=jI h2';obtain⟨j,hj⟩:=gT (QM hf);have:=arq _ _ _ _ hg hj h0 ((hz g2).2 h2);subst this;rw[hg]at hj;cases hj;rfl
 .intro hy;unfold tN;rw[show p.find? (λg=>decide (g.aN=c/\g.at_=(n:Int)))=none from QK.2 λg hg hd=>by
   have hd:=jI hd;have h0:=(hz g).2 hd;obtain⟨j,hj⟩:=gT hg;by_cases hlt:j<y.1
   .have:=h.lo j g hlt hj;omega
   .by_cases e:j=y.1
    .subst e;have:=h.is.2 ⟨g,hj,h0⟩;rw[hy]at this;cases this
    .have hyl:y.1<p.length:=by have:=(bz.1 hj).1;omega
     have hq:p[y.1]? =some p[y.1]:=bN hyl;have h1:=hs y.1 j _ g s6 hq hj;have h2:=h.hi y.1 _ (bG _) hq;apply h2;have e1:=tL.1 h1;rw[tL];show p[y.1].aN<c\/p[y.1].aN=c/\p[y.1].at_<(n:Int);omega]
  rfl
variable{k:aT}{vh vs vr vu gh gc vn vl vp:ah}{fi:Nat}
def adP:
 aY prog (.func 31) [.agg ⟨jE k vh vs vr vc vu gh gc vn vl⟩,.agg ⟨[vp]⟩,.agg ⟨jf r v1 v2⟩,iV (fi:Int)] [] [] [] (λy:Nat×Nat×Nat×Nat=>.func (.func 116) #[] #[ptr' y.1,ptr' y.2.1,ptr' y.2.2.1,ptr' y.2.2.2]) (λ_=>[])
  (λy=>[aX y.1 0 (jE k vh vs vr vc vu gh gc vn vl),aX y.2.1 0 [iV (fi:Int)],aX y.2.2.1 0 (jf r v1 v2),aX y.2.2.2 0 [vp]]) (λ_=>True):=by
 refine gB 31 λB w0=>?_;refine go ?_;intro b4 b5 b6 b7;refine go ?_;refine gP b4 ?_;refine gP b5 ?_;refine gP b6 ?_;refine gP b7 ?_;exact gQ (b4,b7,b6,b5) trivial
variable{F:ae aI}{kl:ae OA}
def ars{B:ae Nat}{w0:Wd}{Q:IH->Prop}(f:aI)(hf:∀w,f.p w)(h:R Q B w0 kl (f::F)):R Q B w0 kl F:=λw s=>
 h w ⟨s.agree,s.le,s.fF,s.own,λg hg=>by
  rcases dm.1 hg with rfl|hg
  .exact hf w
  .exact s.facts g hg⟩
def Dx(p:ae Clue)(r:bF)(ls:ae (ae Int))(j:Nat):ae (Nat×ae Int×ae Int):=((ls.drop j).zipIdx (0+(ls.take j).length)).filterMap (pK p r)
variable{ls:ae (ae Int)}
def adQ(j:Nat):lY p r ls=lY p r (ls.take j)++Dx p r ls j:=by
 unfold lY Dx;rw[<- Cb,<- BZ,l5]
def adR{bk bf br bp:Nat}(hS:nU k)(hl:p.length<4611686018427387904)(hs:Qo p)(hls:k.lists[fi]? =some ls):
 GQ prog KC EP (.func 116) [] [ptr' bk,ptr' bf,ptr' br,ptr' bp] [aX bk 0 (jE k vh vs vr vc vu gh gc vn vl),aX bf 0 [iV (fi:Int)],aX br 0 (jf r v1 v2),aX bp 0 [vp],ay (aA (aA aj)) vl k.lists,ay bU vp p] (λxs=>xs.map rz=lY p r ls):=by
 intro S inv ok step s0 oM y1 y2 F' h0 hok hy;rw[bQ,bQ,bQ,bQ,bQ,bQ,bP];refine gB 116 λB w0=>?_;have hll:=(hS.lists.2 ls (aV hls)).1;have hfi:=(bz.1 hls).1;refine gX (aA (aA aj)) (xs:=k.lists) λ_ _ VC (VA:ah) adS=>?_;rw[hls]at adS;obtain rfl:ls=VC:=Option.some.inj adS;refine go ?_;refine dL (λy:Nat×ae LA×S=>ls.length - y.1) (λy=>[(17,iV (y.1:Int))]) (λy=>inv y.2.2) (λ_=>[]) (λy=>y.1<=ls.length/\ok y.2.1 y.2.2/\y.2.1.map rz=lY p r (ls.take y.1)/\∀rest,cz step s0 (y.2.1++rest)=cz step y.2.2 rest) (0,[],s0) ⟨bI _,h0,rfl,λ_=>rfl⟩ (body:=?_);rintro⟨j,bS,s⟩ ⟨hj,hos,iW,hrun⟩;dsimp only at hj hos iW hrun⊢;refine aK ?_ ?_<;>intro h1
 rotate_left
 .have iH:j=ls.length:=by omega
  subst iH;rw[dK]at iW;exact eR
 refine gX (aA aj) (xs:=ls) λ_ _ ps (yL:ah) hps=>?_;have IA:=alC (p:=p) (r:=r) hps;refine gF aj yL ps λap cp ep=>?_;subst ep;refine go ?_;intro b8;refine aK ?_ ?_<;>intro h2
 .have hlr:pK p r (ps,j)=(tN p r.aN (j:Int)).map λv=>(j,ps,v):=by unfold pK;rw[if_neg s6]
  refine gC (arp (p:=p) (t:=⟨r.aN,(j:Int),[]⟩) (vt:=.slice none 0 0) hl hs) λy hy2=>?_;have Cr:=hy2.find hs;obtain⟨n,fd⟩:=y;dsimp only at Cr⊢;rw[bP];cases fd with
  |false=>
   have hnn:=Cr.2 rfl;rw[hlr,hnn]at IA;refine go ?_;exact aW (j+1,bS,s) DG ⟨by show j+1<=_;omega,hos,by show bS.map rz=_;rw[iW,IA];exact(jo _).symm,hrun⟩
  |true=>
   obtain⟨g,hg,hfg⟩:=Cr.1 rfl;have Yn:=(bz.1 hg).1;rw[hlr,hfg]at IA;refine go ?_;refine aae bU 3 rfl hg λb o f cc yc ec=>?_;subst ec;rw[show bU.fs g yc=[ay aj yc g.values]from rfl,bQ,bP,show bU.pat g yc=[iV g.aN,iV g.at_,yc]from rfl];refine go ?_;refine(JQ (b:=b) (o:=o+n*3) (j:=2) (cs:=[iV g.aN,iV g.at_,yc]) (v:=yc) rfl rfl rfl (eX ..) rfl).h ?_;refine gF aj yc g.values λaq cq eq=>?_;subst eq;generalize hxd:((j,(ps,Value.slice ap ps.length cp),(g.values,Value.slice aq g.values.length cq)):LA)=x;have hnx:lY p r (ls.take (j+1))=lY p r (ls.take j)++[rz x]:=by rw[IA,<- hxd];rfl
   have hX:(bS++x::C9 (Dx p r ls (j+1))).map rz=lY p r ls:=by
    exact sA
   have fQ:=hy _ s _ _ hos hX;rw[show KC x=[iV (j:Int),.agg ⟨[.slice ap ps.length cp,.slice aq g.values.length cq]⟩]by rw[<- hxd];rfl,show EP x=[ay aj (.slice ap ps.length cp) ps,ay aj (.slice aq g.values.length cq) g.values]by rw[<- hxd];rfl]at fQ;exact cT
 .have hlr:pK p r (ps,j)=some (j,ps,[]):=by unfold pK;rw[if_pos s6]
  rw[hlr]at IA;refine ars (ay aj (.slice none 0 0) ([]:ae Int)) (λw=>.inl ⟨rfl,none,0,rfl,trivial⟩) ?_;generalize hxd:((j,(ps,Value.slice ap ps.length cp),(([]:ae Int),Value.slice none 0 0)):LA)=x;have hnx:lY p r (ls.take (j+1))=lY p r (ls.take j)++[rz x]:=by rw[IA,<- hxd];rfl
  have hX:(bS++x::C9 (Dx p r ls (j+1))).map rz=lY p r ls:=by
   exact sA
  have fQ:=hy _ s _ _ hos hX;rw[show KC x=[iV (j:Int),.agg ⟨[.slice ap ps.length cp,.slice none 0 0]⟩]by rw[<- hxd];rfl,show EP x=[ay aj (.slice ap ps.length cp) ps,ay aj (.slice none 0 0) []]by rw[<- hxd];rfl]at fQ;exact cT
def LB{P:Program}{Y Z:Type}{fn:Fn}{args cap:ae ah}{val:Y->ah}{adT:Z->ah}{kl':Y->ae OA}{dS:Z->ae OA}{fs:Y->ae aI}{fs2:Z->ae aI}{pr:Y->Prop}{Km:Z->Prop}(h:aY P fn args cap kl F val kl' fs pr)(g:Y->Z)
 (hv:∀y,pr y->val y=adT (g y)) (hk:∀y,kl' y=dS (g y)) (hf:∀y (w:Wd),pr y->(∀f∈F,f.p w)->(∀f∈fs y,f.p w)->∀f∈fs2 (g y),f.p w) (hp:∀y,pr y->Km (g y)):aY P fn args cap kl F adT dS fs2 Km:=λB w s=>by
 refine .vQ _ (h B w s) ?_;rintro r pm h' ⟨e,w',y,e1,st,er,hp'⟩;exact⟨e,w',g y,e1,⟨st.agree,st.le,st.fF,hk y▸st.own,hf y w' hp' (λf hf=>f.mono st.le (s.facts f hf)) st.facts⟩,er.trans (congrArg jL.ok (hv y hp')),hp y hp'⟩
abbrev IB(fn:Fn)(cap:ae ah)(F:ae aI)(r:bF)(cells vals:ae Int):Prop:=∀vc vv v1 v2:ah,
 aY prog fn [.agg ⟨jf r v1 v2⟩,.agg ⟨[vc,vv]⟩] cap [] (ay aj vc cells::ay aj vv vals::F) (λvr:ah=>Iz (nR r cells vals).kind (nR r cells vals).set (nR r cells vals).other (nR r cells vals).lo (nR r cells vals).hi vr) (λ_=>[]) (λvr=>[ay aj vr (nR r cells vals).runs]) (λ_=>True)
def LC(r:bF)(vals:ae Int):Prop:=(r.kind=2\/r.kind=3->r.fV≠qI->0<vals.length)/\(r.kind=11->0<vals.length/\∀x∈vals,0<=x/\x<16)
def Qp(w:Wd):(ay aj (.slice none 0 0) ([]:ae Int)).p w:=.inl ⟨rfl,none,0,rfl,trivial⟩
def Fq{kd:Int}(hk:aaY r.kind=kd)(hn:r.kind≠2/\r.kind≠3/\r.kind≠5/\r.kind≠11)(hF:aX b 0 [iV kd]∈F):IB (.func 190) [ptr' b] F r cells vals:=by
 intro vc vv v1 v2;have e:nR r cells vals=⟨kd,cells,r.set,r.other,r.n,0,[],0,0⟩:=by simp[nR,hn,hk]
 rw[e];exact LB ((ari (b:=b) (k:=kd) (r:=r) (vc:=vc) (vv:=vv) (v1:=v1) (v2:=v2)).facts (λf hf=>by rw[bR.1 hf];exact fP _ (fP _ hF))) (λ_=>Value.slice none 0 0) (λ_ _=>rfl) (λ_=>rfl) (λ_ w _ _ _ f hf=>by rw[bR.1 hf];exact Qp w) (λ_ _=>trivial)
def art(hk:r.kind=2)(hp:LC r vals):IB (.func 112) [] F r cells vals:=by
 intro vc vv v1 v2;have e:nR r cells vals=⟨2,cells,r.set,0,(ry r vals cells.length).1,(ry r vals cells.length).2,[],0,0⟩:=An
 rw[e];exact LB ((arj (r:=r) (cells:=cells) (vals:=vals) (vc:=vc) (vv:=vv) (v1:=v1) (v2:=v2) (hp.1 (.inl hk))).facts (λf hf=>by simp only[dm,IR,or_false]at hf⊢;rcases hf with rfl|rfl<;>simp)) (λ_=>Value.slice none 0 0) (λ_ _=>rfl) (λ_=>rfl) (λ_ w _ _ _ f hf=>by rw[bR.1 hf];exact Qp w) (λ_ _=>trivial)
def aru(hk:r.kind=3)(hp:LC r vals):IB (.func 113) [] F r cells vals:=by
 intro vc vv v1 v2;have e:nR r cells vals=⟨3,cells,0,0,(ry r vals 65536).1,(ry r vals 65536).2,[],0,0⟩:=An
 rw[e];exact LB ((ark (r:=r) (vals:=vals) (vc:=vc) (vv:=vv) (v1:=v1) (v2:=v2) (hp.1 (.inr hk))).facts (λf hf=>by rw[bR.1 hf];simp)) (λ_=>Value.slice none 0 0) (λ_ _=>rfl) (λ_=>rfl) (λ_ w _ _ _ f hf=>by rw[bR.1 hf];exact Qp w) (λ_ _=>trivial)
def arv(hk:r.kind=5):IB (.func 114) [] F r cells vals:=by
 intro vc vv v1 v2;have e:nR r cells vals=⟨5,cells,r.set,0,0,0,vals,0,0⟩:=An
 rw[e];exact LB ((arl (r:=r) (vals:=vals) (vc:=vc) (vv:=vv) (v1:=v1) (v2:=v2)).facts (λf hf=>by rw[bR.1 hf];simp)) (λ_=>vv) (λ_ _=>rfl) (λ_=>rfl) (λ_ w _ hF _ f hf=>by rw[bR.1 hf];exact hF _ s7) (λ_ _=>trivial)
def arw(hk:r.kind=11)(hp:LC r vals):IB (.func 115) [] F r cells vals:=by
 intro vc vv v1 v2;have e:nR r cells vals=⟨2,cells,((1<<<(vals.getD 0 0).toNat:Nat):Int),0,1,1,[],0,0⟩:=An
 rw[e];exact LB ((arn (r:=r) (vals:=vals) (vc:=vc) (vv:=vv) (v1:=v1) (v2:=v2) (hp.2 hk).1 (hp.2 hk).2).facts (λf hf=>by rw[bR.1 hf];simp)) (λ_=>Value.slice none 0 0) (λ_ _=>rfl) (λ_=>rfl) (λ_ w _ _ _ f hf=>by rw[bR.1 hf];exact Qp w) (λ_ _=>trivial)
structure arx(y:Lx)(r:bF)(fm:Int)(fn:Fn)(cap:List Value):Prop where
 at_:jR (kD (Wo y) (r.kind.toNat*3)) 3=some [iV fm,iV (jS r:Int),.func fn #[] ⟨cap⟩]
 fM:(if fm<0 then r.family else fm)=iG r
 ok:∀cells vals,LC r vals->IB fn cap (adO y) r cells vals
def ary(y:Lx){r:bF}(h:1<=r.kind/\r.kind<=11):∃fm fn cap,arx y r fm fn cap:=by
 have hk:r.kind=1\/r.kind=2\/r.kind=3\/r.kind=4\/r.kind=5\/r.kind=6\/r.kind=7\/r.kind=8\/r.kind=9\/r.kind=10\/r.kind=11:=s6
 rcases hk with e|e|e|e|e|e|e|e|e|e|e
 .exact⟨-1,.func 190,[ptr' y.b1],by rw[e,jS,if_pos (.inl e)];rfl,by unfold iG;rw[if_pos s6,if_neg s6,if_neg s6,if_neg s6],λcells vals hp=>Fq (kd:=1) tx s6 s7⟩
 .exact⟨-1,.func 112,[],by rw[e,jS,if_neg s6];rfl,by unfold iG;rw[if_pos s6,if_neg s6,if_neg s6,if_neg s6],λcells vals hp=>art e hp⟩
 .exact⟨-1,.func 113,[],by rw[e,jS,if_neg s6];rfl,by unfold iG;rw[if_pos s6,if_neg s6,if_neg s6,if_neg s6],λcells vals hp=>aru e hp⟩
 .exact⟨-1,.func 190,[ptr' y.b4],by rw[e,jS,if_pos (.inr e)];rfl,by unfold iG;rw[if_pos s6,if_neg s6,if_neg s6,if_neg s6],λcells vals hp=>Fq (kd:=4) tx s6 s7⟩
 .exact⟨-1,.func 114,[],by rw[e,jS,if_neg s6];rfl,by unfold iG;rw[if_pos s6,if_neg s6,if_neg s6,if_neg s6],λcells vals hp=>arv e⟩
 .exact⟨6,.func 190,[ptr' y.b6],by rw[e,jS,if_neg s6];rfl,by unfold iG;rw[if_neg s6,if_pos s6],λcells vals hp=>Fq (kd:=1) tx s6 s7⟩
 .exact⟨6,.func 190,[ptr' y.b7],by rw[e,jS,if_neg s6];rfl,by unfold iG;rw[if_neg s6,if_pos s6],λcells vals hp=>Fq (kd:=6) tx s6 s7⟩
 .exact⟨6,.func 190,[ptr' y.b8],by rw[e,jS,if_neg s6];rfl,by unfold iG;rw[if_neg s6,if_pos s6],λcells vals hp=>Fq (kd:=7) tx s6 s7⟩
 .exact⟨7,.func 190,[ptr' y.b9],by rw[e,jS,if_neg s6];rfl,by unfold iG;rw[if_neg s6,if_neg s6,if_pos s6],λcells vals hp=>Fq (kd:=8) tx s6 s7⟩
 .exact⟨7,.func 190,[ptr' y.b10],by rw[e,jS,if_neg s6];rfl,by unfold iG;rw[if_neg s6,if_neg s6,if_pos s6],λcells vals hp=>Fq (kd:=9) tx s6 s7⟩
 .exact⟨0,.func 115,[],by rw[e,jS,if_neg s6];rfl,by unfold iG;rw[if_neg s6,if_neg s6,if_neg s6,if_pos s6],λcells vals hp=>arw e hp⟩
structure Qq where
 ok:Bool
 e:Int
 vv:Value
 vc:Value
abbrev arz:ae ah:=[iV 0,iV 0,.slice none 0 0,.slice none 0 0,.slice none 0 0]
abbrev LD(k:aT)(p:ae Clue)(vn:ah)(y:Qq):ah:=.tuple ⟨[.agg ⟨cond y.ok (yK (yO k p) y.vv vn y.vc) arz⟩,iV y.e]⟩
abbrev LF(k:aT)(p:ae Clue)(y:Qq):ae aI:=cond y.ok [ay aj y.vv (gJ k),ay qH y.vc (mP k p)] []
structure adV(k:aT)(p:List Clue)(y:Qq):Prop where
 nk:¬bD k->y.e=180
 np:bD k->¬fE k p->y.e=190
 nl:bD k->fE k p->4096<(mP k p).length->y.e=2
 ok:bD k->fE k p->(mP k p).length<=4096->y.e=0
 eq:y.ok=true↔y.e=0
def adW(hf:RF k r)(hQ:fE k p)(hs:k.decl.symbols.length<=16){y:Nat×ae Int×ae Int}(hy:y∈lY p r ls):LC r y.2.2:=by
 have hb:=hf.by0;rcases hf.vals hQ hy with h|⟨h0,c,_,_,h|h|h⟩
 .refine⟨λ_ hn=>absurd (hb.2 h.1) hn,λhk=>?_⟩;have:=hf.ncl (.inr hk);omega
 .exact⟨λhk=>by omega,λ_=>⟨s6,λx hx=>by have:=h.2.2.2 x hx;omega⟩⟩
 .exact⟨λ_ _=>by omega,λhk=>by omega⟩
 .exact⟨λhk=>by omega,λhk=>by omega⟩
def sH(r:bF)(i:Nat)(s:ae rZ)(x:LA):ae rZ:=if jS r<=x.2.1.1.length then s++[mh r i (rz x)]else s
def Fs(r:bF)(i:Nat):∀(xs:ae LA) (s:ae rZ),gM (λs x=>(sH r i s x,Out.normal)) s xs=(s++((xs.map rz).filter λx=>decide (jS r<=x.2.1.length)).map (mh r i),Out.normal)
 |[],s=>by simp[gM]
 |x::xs,s=>by
  rw[gM];dsimp only;rw[Fs r i xs];unfold sH;rw[iX,FH];by_cases h:jS r<=x.2.1.1.length
  .rw[if_pos h,if_pos (by exact eB h),iX,fo];rfl
  .rw[if_neg h,if_neg (by rw[lV];exact h)]
def bjq{Pq:Prop}(h:Pq:=by
 have hL:=adP (k:=k) (r:=r) (fi:=(iG r).toNat) (vh:=vh) (vs:=.slice jg k.decl.symbols.length cs1) (vr:=vr) (vc:=vc) (vu:=.slice au k.decl.rules.length cu) (gh:=gh) (gc:=.slice ag k.grid.cells.length cg) (vn:=.slice an k.aH.length cn) (vl:=vl) (vp:=vp) (v1:=w.1) (v2:=w.2);rw[hfi]at hL;refine go ?_;refine gP b9 ?_;refine gP b10 ?_;refine gP b11 ?_;refine fH hL (next:=λyl _=>?_);have hL1:=adR (bk:=yl.1) (bf:=yl.2.1) (br:=yl.2.2.1) (bp:=yl.2.2.2) (k:=k) (p:=p) (r:=r) (fi:=(iG r).toNat) (ls:=ls) (vh:=vh) (vs:=.slice jg k.decl.symbols.length cs1) (vr:=vr) (vc:=vc) (vu:=.slice au k.decl.rules.length cu) (gh:=gh) (gc:=.slice ag k.grid.cells.length cg) (vn:=.slice an k.aH.length cn) (vl:=vl) (vp:=vp) (v1:=w.1) (v2:=w.2) hS hpl qJ hls;rw[hfi]at hL1;refine go ?_;refine oz (λv:ah=>[pt b4 (.cells (yK (yO k p) vv (.slice an k.aH.length cn) v)),ap qH v (oD k p j)]) K3 (h:=?_);refine Ki (Z:=Nat) (λ(s:ae rZ) (x:LA)=>(sH r j s x,Out.normal)) (λs=>[Ez λv:ah=>[pt b4 (.cells (yK (yO k p) vv (.slice an k.aH.length cn) v)),ap qH v s]]) (λvs s=>s=oD k p j++((vs.map rz).filter λx=>decide (jS r<=x.2.1.length)).map (mh r j)) (oD k p j) _ (λx z=>[pt z (.cells [x.2.1.2,x.2.2.2])]) (by simp) (λvs s x rest hs _ _=>by
  have:=Fs r j (vs++[x]) (oD k p j);have h2:=Fs r j vs (oD k p j);rw[hs];show sH r j _ x=_;unfold sH;rw[bZ,ze,bZ,kg];by_cases h:jS r<=x.2.1.1.length
  .rw[if_pos h,List.filter_cons_of_pos (by exact eB h)];simp
  .rw[if_neg h,List.filter_cons_of_neg (by rw[lV];exact h)];simp) hL1 (by intro s x lo o B w0;dsimp only[KC,EP,List.cons_append,List.nil_append,List.zip_cons_cons,List.zip_nil_left,List.reverse_cons,List.reverse_nil];refine go ?_;intro b14;refine go ?_;exact zI b14 rfl) ?_ ?_ (λ_ _=>trivial)
 .rintro vs s ⟨at_,⟨cells,wc⟩,⟨vals,wv⟩⟩ rest z lo L B w0 hs hX;have hx:(at_,cells,vals)∈lY p r ls:=by rw[<- hX];exact cO.2 ⟨(at_,(cells,wc),(vals,wv)),by simp,rfl⟩
  have hpre:=adW hf hQ hsl hx;have hml:s.length<=65536:=by
   have h1:=zh (λx:Nat×ae Int×ae Int=>decide (jS r<=x.2.1.length)) (vs.map rz);have h2:=congrArg List.length hX;have h3:=hlf _ (aV hls);have h4:=Pf (p:=p) (r:=r) (ls:=ls);rw[bi,fu]at h2;rw[bi]at h1;rw[hs,fu,bi];omega
  have hcc:(mh r j (at_,cells,vals)).cells=cells:=by unfold mh nR;dsimp only;(repeat' split)<;>rfl
  have hrr:(mh r j (at_,cells,vals)).runs=(nR r cells vals).runs:=rfl;dsimp only[EP,List.cons_append,List.nil_append,List.reverse_cons,List.reverse_nil];refine gF aj wc cells λak ck ek=>?_;subst ek;have hmk:=hM.ok cells vals hpre (.slice ak cells.length ck) wv w.1 w.2;refine rW (h:=λv=>?_);refine aK ?_ ?_<;>intro h5
  .have hadd:sH r j s (at_,(cells,.slice ak cells.length ck),(vals,wv))=s:=by unfold sH;rw[if_neg (by show¬jS r<=cells.length;omega)]
   rw[hadd];refine go ?_;refine oz (λv:ah=>[pt b4 (.cells (yK (yO k p) vv (.slice an k.aH.length cn) v)),ap qH v s]) v (h:=?_);exact pE () rfl trivial trivial
  have hadd:sH r j s (at_,(cells,.slice ak cells.length ck),(vals,wv))=s++[mh r j (at_,cells,vals)]:=by unfold sH;rw[if_pos (by show jS r<=cells.length;omega)];rfl
  rw[hadd];refine gC hmk λvq _=>?_;refine go ?_;intro b15;refine go ?_;intro b98;refine fA (ay aj (.slice ak cells.length ck) (mh r j (at_,cells,vals)).cells) (λw hw=>by rw[hcc];exact hw (ay aj (.slice ak cells.length ck) cells) (by simp)) ?_;refine fA (ay aj vq (mh r j (at_,cells,vals)).runs) (λw hw=>hw (ay aj vq (nR r cells vals).runs) (by simp)) ?_;refine jy (xs:=s) qH (mh r j (at_,cells,vals)) (.slice ak cells.length ck,vq) (by omega) (next:=λad=>?_);refine go ?_;refine oz (λv:ah=>[pt b4 (.cells (yK (yO k p) vv (.slice an k.aH.length cn) v)),ap qH v (s++[mh r j (at_,cells,vals)])]) _ (h:=?_);exact pE () rfl trivial trivial
 .intro rr xs hX;rw[Fs,hX];have hnew:oD k p j++((lY p r ls).filter λx=>decide (jS r<=x.2.1.length)).map (mh r j)=oD k p (j+1):=by
   rw[Pe hr];unfold qE Da;rw[fK hls]
  rw[hnew];dsimp only[List.cons_append,List.nil_append];refine rW (h:=λv=>?_);refine go ?_;refine S9 (rs:=rs) (r:=rr) (h:=?_);exact J4 (j+1,v,rr::rs) (by show k.decl.rules.length - (j+1)<k.decl.rules.length - j;omega) (by show j+1<=_;omega)):Pq:=h
set_option maxRecDepth 100000 in
def Qr(hS:nU k)(hP:uf p):
 aY prog (.func 7) [.agg ⟨jE k vh vs vr vc vu gh gc vn vl⟩,.agg ⟨[vp]⟩] [] [] (ay bU vp p::iO k vh vs vr vc vu gh gc vn vl []) (LD k p vn) (λ_=>[]) (LF k p) (adV k p):=by
 refine zD _ (pY 7) λB w0=>?_;refine gF jO vs k.decl.symbols λjg cs1 es1=>?_;subst es1;refine gF di vu k.decl.rules λau cu eu=>?_;subst eu;refine gF aj gc k.grid.cells λag cg eg=>?_;subst eg;refine gF (aA aj) vn k.aH λan cn en=>?_;subst en;refine go ?_;intro b2 b3 b4;refine gC (VB (k:=k) (p:=p) hS hP) λe he=>?_;refine aK ?_ ?_<;>intro h1
 .have hK0:bD k->fE k p->False:=λa b=>h1 (he.2.2 a b);refine go ?_;exact uO ⟨false,e,.slice none 0 0,.slice none 0 0⟩ (hv:=rfl) (hp:=⟨he.1,he.2.1,λa b=>(hK0 a b).elim,λa b=>(hK0 a b).elim,⟨λh=>(by cases h),λh=>absurd h h1⟩⟩)
 have hz:e=0:=j6.1 h1;subst hz;have hK:bD k:=Classical.byContradiction λh=>by have:=he.1 h;omega
 have hQ:fE k p:=Classical.byContradiction λh=>by have:=he.2.1 hK h;omega
 have hsl:=hK.typ.lim.s1;have hrl:=hK.typ.lim.u;have hgl:=hK.bJ.len;rw[<- hK.grid]at hgl;refine go ?_;refine kv aj ?_;refine dL (λy:Nat×ah=>k.decl.symbols.length - y.1) (λy=>[(38,iV (y.1:Int))]) (λy=>[pt b4 (.cells (yK (yO k p) y.2 (.slice an k.aH.length cn) (.slice none 0 0))),ap aj y.2 ((k.decl.symbols.take y.1).map (·.value))]) (λ_=>[]) (λy=>y.1<=k.decl.symbols.length) (0,.slice none 0 0) (bI _) (hk:=tc) (body:=?_);rintro⟨j,vv⟩ hj;dsimp only at hj⊢;have hjl:((k.decl.symbols.take j).map (·.value)).length=j:=us
 refine aK ?_ ?_<;>intro h2
 .refine gX jO (xs:=k.decl.symbols) λ_ _ s (_:Unit) hs=>?_;have htk:(k.decl.symbols.take (j+1)).map (·.value)=(k.decl.symbols.take j).map (·.value)++[s.value]:=by rw[fq hs,bZ,kg]
  refine go ?_;intro b7;refine go ?_;intro b46;exact dj
 have iH:j=k.decl.symbols.length:=s6
 subst iH;rw[dK,show k.decl.symbols.map (·.value)=gJ k from rfl];refine gZ (ja (E:=aj) (v:=vv) (xs:=gJ k)) ?_;refine gC aro λy _=>?_;refine go ?_;intro b8;refine gP b8 ?_;have hlf:∀l∈k.lists,l.length<=2048:=by rw[hK.lists];exact KG hK.bJ (λr hr=>(hK.typ.wH r hr).1.2)
 have hpl:p.length<4611686018427387904:=by have:=hQ.len;omega
 have qJ:Qo p:=λi j a b hij ha hb=>Db hQ (j - (i+1)) i a b ha (by rw[show i+1+(j - (i+1))=j by omega];exact hb);refine go ?_;refine kv qH ?_;refine Zk ?_;refine Zl (λy=>y.2.2.map Oh) (λy:Nat×ah×ae Nat=>k.decl.rules.length - y.1) (λy=>[(55,iV (y.1:Int))]) (λy=>[EC y.2.2,pt b2 (.cells (jE k vh (.slice jg k.decl.symbols.length cs1) vr vc (.slice au k.decl.rules.length cu) gh (.slice ag k.grid.cells.length cg) (.slice an k.aH.length cn) vl)),pt b3 (.cells [vp]),pt b4 (.cells (yK (yO k p) vv (.slice an k.aH.length cn) y.2.1)),ap qH y.2.1 (oD k p y.1)]) (λ_=>[]) (λy=>y.1<=k.decl.rules.length) (0,.slice none 0 0,[]) (bI _) (hk:=tc) (body:=?_);rintro⟨j,K3,rs⟩ hj;dsimp only at hj⊢;have hcl:=aa5 (p:=p) hlf j hj;refine aK ?_ ?_<;>intro h3
 .refine gX di (xs:=k.decl.rules) λ_ _ r (w:ah×ah) hr=>?_;have hrm:=aV hr;have hf:=hK.rf hrm;have hkd:=hf.kd;obtain⟨ls,hls,_⟩:=hf.list hK;obtain⟨fm,fn,cap,hM⟩:=ary y hf.kd;have Dn:=hM.fM;have hf0:0<=iG r:=by
   have:=hf.f0;unfold iG;repeat' split
   all_goals omega
  refine go ?_;intro b9 b10;refine go ?_;refine(SF (b:=b8) (o:=0) (j:=r.kind.toNat*3) (m:=3) (cs:=Wo y) (c:=[iV fm,iV (jS r:Int),.func fn #[] ⟨cap⟩]) rfl rfl rfl DS hM.at_).h ?_;refine go ?_;intro b11;refine aK ?_ ?_<;>intro h4
  .rw[if_pos h4]at Dn;have hfi:(((iG r).toNat:Nat):Int)=r.family:=by rw[Dn];exact rR hf0
   exact bjq
  .rw[if_neg h4]at Dn;have hfi:(((iG r).toNat:Nat):Int)=fm:=by rw[Dn];exact rR hf0
   exact bjq
 have iH:j=k.decl.rules.length:=s6
 subst iH;rw[aa4]at hcl⊢;refine aK ?_ ?_<;>intro h4
 .have hno:¬(mP k p).length<=4096:=by omega
  refine go ?_;exact Ta (rs:=rs) ⟨false,2,.slice none 0 0,.slice none 0 0⟩ (hv:=rfl) (hp:=⟨λh=>absurd hK h,λ_ h=>absurd hQ h,λ_ _ _=>rfl,λ_ _ h=>absurd h hno,⟨λh=>(by cases h),λh=>(by cases h)⟩⟩)
 have arA:¬4096<(mP k p).length:=s6
 refine gZ (ja (E:=qH) (v:=K3) (xs:=mP k p)) ?_;refine go ?_;exact Ta (rs:=rs) ⟨true,0,vv,K3⟩ (hv:=rfl) (hp:=⟨λh=>absurd hK h,λ_ h=>absurd hQ h,λ_ _ h=>absurd h arA,λ_ _ _=>rfl,⟨λ_=>rfl,λ_=>rfl⟩⟩)
def arB(hK:bD k)(h16:k.grid.cells.length<=16):∀l∈k.lists,l.length<=96:=by
 rw[hK.lists];refine alW hK.bJ ?_ (λr hr=>(hK.typ.wH r hr).1.2);rw[<- hK.grid];exact h16
def LG(hK:bD k)(h16:k.grid.cells.length<=16):(mP k p).length<=4096:=alX (arB hK h16) hK.typ.lim.u
def adY{x:Int}:∀{l:ae Int} {i j:Nat},l.count x=1->l[i]? =some x->l[j]? =some x->i=j
 |[],i,j,h,_,_=>by simp at h
 |a::l,0,0,_,_,_=>rfl
 |a::l,0,j+1,h,hi,hj=>by
  have ha:a=x:=w8
  have hx:x∈l:=aV (show l[j]? =some x by simpa using hj);exact sq
 |a::l,i+1,0,h,hi,hj=>by
  have ha:a=x:=AK
  have hx:x∈l:=aV (show l[i]? =some x by simpa using hi);exact sq
 |a::l,i+1,j+1,h,hi,hj=>by
  have hi:l[i]? =some x:=w8
  have hj:l[j]? =some x:=AK
  have hx:=QS.2 (aV hi);rw[List.count_cons]at h;have:l.count x=1:=by split at h<;>omega
  rw[adY this hi hj]
def arC(hn:n<p.length)(i:Nat):(p.take n++p.drop (n+1))[i]? =p[if i<n then i else i+1]?:=by
 have hl:(p.take n).length=n:=tR
 by_cases h:i<n
 .rw[if_pos h,ql s6,wP,if_pos h]
 .rw[if_neg h,sN s6,rH,hl];congr 1;omega
def adZ(hn:n<p.length)(h:fE k p):fE k (p.take n++p.drop (n+1)):=by
 refine⟨?_,λg hg=>h.right g (Uj hg),λi a b ha hb=>?_⟩
 .have:=h.len;rw[fu,gW,uo];omega
 .rw[arC hn]at ha hb;by_cases h1:i+1<n
  .rw[if_pos s6]at ha;rw[if_pos h1]at hb;exact h.sorted i a b ha hb
  .rw[if_neg h1]at hb;by_cases h2:i<n
   .rw[if_pos h2]at ha;exact Db h 1 i a b ha hb
   .rw[if_neg h2]at ha;exact h.sorted (i+1) a b ha hb
def arD{g:Clue}(hK:bD k)(hQ:fE k p)(hg:p[n]? =some g):
 ∃A own B j r,mP k p=A++own::B/\mP k (p.take n++p.drop (n+1))=A++B/\own.rule=((j:Nat):Int)/\own.at_=g.at_/\k.decl.rules[j]? =some r/\r.aN=g.aN:=by
 have hn:=(bz.1 hg).1;obtain⟨c,l,c0,c1,c2,a0,a1,_⟩:=hQ.right g (aV hg);obtain⟨h1,_⟩:=hK.typ.form.ny _ c c1;have hcl:((g.aN.toNat:Nat):Int)=g.aN:=rR c0;rw[hcl]at h1;have hm:=QS.1 (show 0<(k.decl.rules.map (·.aN)).count g.aN by omega);obtain⟨r,hrm,hrc⟩:=cO.1 hm;obtain⟨j,hr⟩:=gT hrm;have Um:∀(i:Nat) r',k.decl.rules[i]? =some r'->r'.aN=g.aN->i=j:=λi r' h2 h3=>
  adY h1 (by rw[eF,h2];exact congrArg some h3) (by rw[eF,hr];exact congrArg some hrc)
 have hf:=hK.rf hrm;obtain⟨hkd,c',d1,d2,_⟩:=hf.cl s6;rw[hrc,c1]at d1;cases d1;obtain⟨A,own,B,e1,e2,e3,e4⟩:=alone hQ (adZ hn hQ) hg hr hrc Um c0 (by unfold jS;rw[if_neg s6]) (by rw[<- d2];exact c2) a0 a1;exact⟨A,own,B,j,r,e1,e2,e3,e4,hr,hrc⟩
def Wq{k:aT}(hK:bD k):∀(p:ae Clue),fE k p->(mP k p).length=(mP k []).length+p.length
 |[],_=>rfl
 |g::q,hQ=>by
  obtain⟨A,own,B,j,r,e1,e2,_⟩:=arD (n:=0) (g:=g) hK hQ rfl;have h2:=adZ (n:=0) s7 hQ;have e3:(g::q).take 0++(g::q).drop (0+1)=q:=rfl;rw[e3]at e2 h2;have:=Wq hK q h2;rw[e1,fu,rJ,rJ];rw[e2,fu]at this;omega
def Qs{y:Qq}(hK:bD k)(hQ:fE k p)(h16:k.grid.cells.length<=16)(h:adV k p y):y.e=0/\y.ok=true:=by
 have:=h.ok hK hQ (LG hK h16);exact⟨this,h.eq.2 this⟩
variable{x:ae Clue}{s t:ae Int}
def arE(hK:bD k)(hk:eU k s t)(hQ:fE k p)(hx:jG (p.map (gK k s t)) x):x.length=p.length:=by
 rw[(Hr hK hk hQ hx).length_eq,bi]
def ad1(hK:bD k)(hk:eU k s t)(hQ:fE k p)(hx:jG (p.map (gK k s t)) x):(mP k x).length=(mP k p).length:=by
 rw[Wq hK x (Ld hK hk hQ hx),Wq hK p hQ,arE hK hk hQ hx]
