/- Part. -/
import Derived.Test.YtoilpafpgndilaaGreatLibMF
import Derived.Test.YtoilpafpgndilaaGreatLibAAF
set_option linter.all false
set_option maxRecDepth 10000
set_option maxHeartbeats 4000000
namespace Go.Proofs.YtoilpafpgndilaaGreat
open Tryz (prog)
open Go.Ideal Kd Canon
def um(cl:kI Int)(n:Nat):Prop:=∀i:Nat,i<n->0<=aB cl (i:Int)/\aB cl (i:Int)<=(i:Int)/\aB cl (aB cl (i:Int))=aB cl (i:Int)
variable{cl:kI Int}{n:Nat}
def um.step(h:um cl n){x:Int}(hx:cl[n]? =some x)(h1:0<=x)(h2:x<=(n:Int))(h3:aB cl x=x):um cl (n+1):=λi hi=>by
 by_cases e:i=n
 .subst e;rw[ji hx];exact⟨h1,h2,h3⟩
 .exact h i z7
variable{m:Nat}
def um.not{x:Int}(hx:cl[n]? =some x)(h:¬(0<=x/\x<=(n:Int)/\aB cl x=x))(b:Bool)(hb:b=false):b=true↔akC m cl:=by
 subst hb;refine⟨(λe=>by cases e),λq=>absurd ?_ h⟩;have hl:=(bq.1 hx).1;have:=q.NN n (by rw[<- q.len];exact hl)
 rwa [ji hx]at this
variable{xs:kI Int}{v:vI}
def ai3(hl:xs.length<2^63):fC prog 38 [v,iV (n:Int)] [ai ae v xs] (λb:Bool=>.bool b) (λb=>b=true↔akC n xs):=by
 refine gB 38 λB w0=>?_;refine gF ae v xs λav cv ev=>?_;subst ev;refine gN xs.length 9 (λk=>k<=xs.length/\um xs k) ⟨bR _,λi h=>absurd h (ak5 _)⟩ ?_;rintro k ⟨hk,hall⟩;refine gIf ?_ ?_<;>intro h1
 .exact cS
 exact hU
def jQ(cl sy:kI Int)(s:Int):Nat->kI Int
 |0=>sy
 |k+1=>if aB (jQ cl sy s k) s<0/\aB cl (k:Int)=aB cl s/\(k:Int)∉jQ cl sy s k then(jQ cl sy s k).set s.toNat (k:Int)else jQ cl sy s k
def Pn(cl sy:kI Int)(s:Int):∀k,(jQ cl sy s k).length=sy.length
 |0=>rfl
 |k+1=>by
  unfold jQ;split
  .rw[pV,Pn cl sy s k]
  .exact Pn cl sy s k
def W9{cl sy:kI Int}{s:Int}(s0:0<=s)(s1:s<sy.length):∀k,jQ cl sy s k=if 0<=aB sy s then sy else(match (List.range k).find? (λt:Nat=>decide (aB cl (t:Int)=aB cl s)&&!decide ((t:Int)∈sy))with
 |none=>sy
 |some t=>sy.set s.toNat (t:Int))
 |0=>by
  rw[List.range_zero,List.find?_nil];dsimp only;rw[ite_self];rfl
 |k+1=>by
  have ih:=W9 (cl:=cl) s0 s1 k;unfold jQ;rw[ih];by_cases h0:0<=aB sy s
  .rw[if_pos h0,if_pos h0,if_neg z7]
  .rw[if_neg h0,if_neg h0,Gm,List.find?_append];cases hf:(List.range k).find? (λt:Nat=>decide (aB cl (t:Int)=aB cl s)&&!decide ((t:Int)∈sy))with
   |some t=>
    dsimp only[Option.some_or];rw[if_neg];rintro⟨h,_⟩;rw[FB s0 s1 s0,if_pos rfl]at h;omega
   |none=>
    dsimp only[Option.none_or];rw[List.find?_cons,List.find?_nil];by_cases hc:aB cl (k:Int)=aB cl s
    .by_cases hm:(k:Int)∈sy
     .rw[if_neg (λq=>q.2.2 hm),dK hm];simp
     .rw[if_pos ⟨z7,hc,hm⟩,aR hm,dK hc];simp
    .rw[if_neg (λq=>hc q.2.1),aR hc];simp
variable{sy:kI Int}{s:Int}
def ai4(hc:cl.length=m)(hl:sy.length=m)(s0:0<=s)(s1:s<(m:Int)):jQ cl sy s m=pK cl sy s:=by
 rw[W9 s0 z7 m];unfold pK ug;rw[hc];rfl
def ai5{s j:Nat}(hs:s<xs.length)(hneg:aB xs (s:Int)<0)(hj:j<n):(jv n xs).set (0+j*1) (.bool true)=jv n (xs.set s (j:Int)):=by
 rw[fo,uw];apply iY;intro i;rw[oQ,JL];unfold jv;by_cases hi:i<n
 .rw[dm,pU hi,dm,pU hi];by_cases e:j=i
  .subst e;have:(j:Int)∈xs.set s (j:Int):=aZ (i:=s) (by rw[List.getElem?_set_self hs]);simp[hj,this]
  .rw[if_neg e];have:((i:Int)∈xs.set s (j:Int))↔(i:Int)∈xs:=by
    constructor
    .intro h;rcases anJ h with h|h
     .exact h
     .omega
    .intro h;obtain⟨q,hq⟩:=jS h;have hne:s≠q:=λe=>by
      subst e;rw[ji hq]at hneg;omega
     exact aZ (i:=q) (by rw[List.getElem?_set_ne hne];exact hq)
   show some (Value.bool (decide ((i:Int)∈xs)))=some (Value.bool (decide ((i:Int)∈xs.set s (j:Int))));rw[nO.2 this]
 .exact fW
def ai6(n m:Nat):jv n (List.replicate m (-1))=jv n []:=by
 unfold jv;refine sN λj _=>?_;have:¬((j:Int)∈List.replicate m (-1:Int)):=λh=>by
  have:=(List.mem_replicate.1 h).2;omega
 rw[aR this];simp
def Xa{k:Nat}(hs:s=(k:Int))(hk:k<xs.length):(xs.map (Value.int .i64))[0+k*1]? =some (iV (aB xs s)):=by
 subst hs;rw[fo,uw,dm];have:=rW (p:=xs) (c:=(k:Int)) z7 z7;rw[kJ]at this;rw[this];rfl
abbrev sI(b m:Nat):vI:=.slice (some ⟨b,0,some 0⟩) m m
variable{vc:vI}
def Po{b4 b8 b9 bs bu:Nat}(hc:cl.length=m)(hm:m<=4096)(hG:sy.length=m)(s0:0<=s)(s1:s<(m:Int)):
 bA prog (.func 77) [iV s] [ptr' b4,ptr' b8,ptr' b9] [pt bs (.cells (sy.map iV)),pt bu (.cells (jv m sy))] [gY b4 0 [vc],ai ae vc cl,gY b8 0 [sI bs m],gY b9 0 [sI bu m]] (λ_:Unit=>.tuple ⟨[]⟩)
  (λ_=>[pt bs (.cells ((pK cl sy s).map iV)),pt bu (.cells (jv m (pK cl sy s)))]) (λ_=>[]) (λ_=>True):=by
 have hS:=ai4 (cl:=cl) (sy:=sy) hc hG s0 s1;have hrl:=Pn cl sy s;obtain⟨sn,rfl⟩:=jA s0;refine gB 77 λB w0=>?_;refine gF ae vc cl λacl Xb F4=>?_;subst F4;refine go ?_;refine aU (λk:Nat=>m - k) (λk=>[(8,iV (k:Int))]) (λk=>[pt bs (.cells ((jQ cl sy (sn:Int) k).map iV)),pt bu (.cells (jv m (jQ cl sy (sn:Int) k)))]) (λ_=>[]) (λk=>k<=m) 0 (bR _) (hk:=As) (body:=?_);intro k hk;have Dm:=hrl k;have hno:¬(aB (jQ cl sy (sn:Int) k) (sn:Int)<0/\aB cl (k:Int)=aB cl (sn:Int)/\(k:Int)∉jQ cl sy (sn:Int) k)->jQ cl sy (sn:Int) (k+1)=jQ cl sy (sn:Int) k:=λh=>if_neg h;have ai7:(aB (jQ cl sy (sn:Int) k) (sn:Int)<0/\aB cl (k:Int)=aB cl (sn:Int)/\(k:Int)∉jQ cl sy (sn:Int) k)->jQ cl sy (sn:Int) (k+1)=(jQ cl sy (sn:Int) k).set sn (k:Int):=λh=>if_pos h;refine gIf ?_ ?_<;>intro h1
 rotate_left
 .have hke:k=m:=by omega
  subst hke;rw[hS];exact afN
 refine go ?_;refine qh (b:=bs) (o:=0+sn*1) (cs:=(jQ cl sy (sn:Int) k).map iV) (iV (aB (jQ cl sy (sn:Int) k) (sn:Int))) (Xa rfl z7) ?_;refine gH ?_ ?_<;>intro h2
 .refine go ?_;have e:=hno (λq=>h2 q.1);exact ee
 refine go ?_;intro _ _ x hx;refine go ?_;intro _ _ y hy;have hxg:=ji hx;have hyg:=ji hy;refine gH ?_ ?_<;>intro h3
 .refine go ?_;have e:=hno (λq=>h3 (by rw[<- hxg,<- hyg];exact q.2.1));exact ee
 refine go ?_;refine qh (b:=bu) (o:=0+k*1) (cs:=jv m (jQ cl sy (sn:Int) k)) (.bool (decide ((k:Int)∈jQ cl sy (sn:Int) k))) (VO z7) ?_;refine go ?_;refine fq rfl (λh4=>?_) (λh4=>?_)
 rotate_left
 .refine go ?_;have e:=hno (λq=>q.2.2 h4);exact ee
 have e:=ai7 ⟨h2,by rw[hxg,hyg];exact h3,h4⟩;refine go ?_;refine(MG (b:=bs) (o:=0+sn*1) (cs:=(jQ cl sy (sn:Int) k).map iV) (vs:=[iV (k:Int)]) (c:=(jQ cl sy (sn:Int) (k+1)).map iV) rfl rfl rfl rfl rfl Is (by rw[Hl _ _ _ CA,e,fo,uw,DD]) (by repeat (first|exact yZ|refine Cy rfl I2 rfl rfl ?_|refine MF (EI rfl) rfl ?_))).h ?_;refine go ?_;refine qI (b:=bu) (o:=0+k*1) (cs:=jv m (jQ cl sy (sn:Int) k)) (v:=.bool true) (cs':=jv m (jQ cl sy (sn:Int) (k+1))) (by rw[e,ai5 z7 h2 z7]) (by rw[JL];omega) ?_;refine go ?_;exact aN (k+1) CM CN
variable{i:Nat}{g:Clue}
def ai8{ys:kI CV}{v w:bO.Y}{vs:kI Int}(hy:ys[i]? =some (g,w)):(eG bO ys).set (0+i*3+2) v=eG bO (ys.set i (⟨g.adJ,g.at_,vs⟩,v)):=by
 induction ys generalizing i with
 |nil=>cases hy
 |cons y ys ih=>
  have hp:∀(y:CV) (ys:kI CV),eG bO (y::ys)=(iV y.1.adJ::iV y.1.at_::y.2::eG bO ys:kI vI):=λ_ _=>rfl;cases i with
  |zero=>
   cases hy;rfl
  |succ i=>
   have h2:ys[i]? =some (g,w):=hy;rw[List.set_cons_succ,hp,hp,<- ih h2,show 0+(i+1)*3+2=(0+i*3+2)+3 by omega];rfl
variable{p:kI Clue}
def J9{sy:Int->Bool}(h:p[i]? =some g):ed sy (p.take (i+1))=ed sy (p.take i)++(if sy g.adJ then g.values else[]):=by
 unfold ed;rw[bZ h,anI,List.flatMap_singleton]
def ai9{sy:Int->Bool}(i:Nat):∃r,ed sy p=ed sy (p.take i)++r:=by
 refine⟨ed sy (p.drop i),?_⟩;unfold ed;rw[<- anI,uq]
def Ka{sy:Int->Bool}(h:oK sy m p)(i:Nat):iP m (ed sy (p.take i)):=wE λg hg=>h g (BJ hg)
def aja{sy:Int->Bool}(hc:cl.length=m)(h:oK sy m p)(i:Nat){v:Int}(hv:v∈ed sy (p.take i)):aB (fH cl (ed sy (p.take i))) v=aB (dz sy cl p) v:=by
 obtain⟨r,hr⟩:=ai9 (sy:=sy) (p:=p) i;unfold dz;rw[hr,hc,List.append_assoc];have hr2:iP m (r++upTo' m):=λx hx=>by
  rcases dX.1 hx with hx|hx
  .exact wE h x (by rw[hr];exact nA _ hx)
  .exact(dF.ident m).fG x hx
 exact(NR hc _ (Ka h i) hv _ _ rfl hr2).symm
structure RnY where
 v:Value
 s:Value
variable{vh vs vr vu gh gc vn vl vp jR:vI}{k:bD}
def ajc(hK:dH k)(hQ:age k p)(hcl:cl.length=k.decl.symbols.length):
 bA prog (.func 39) [.agg ⟨kZ k vh vs vr vc vu gh gc vn vl⟩,jR,.agg ⟨[vp]⟩] [] [] [ai ae jR cl,ai bO vp p,ai bI vc k.decl.aJ] (λy:RnY=>.tuple ⟨[.agg ⟨[y.v]⟩,y.s]⟩) (λ_=>[])
  (λy=>[ai bO y.v (bK (aK k) (dz (aK k) cl p) p),ai ae y.s (dz (aK k) cl p)]) (λ_=>True):=by
 have hsy:=age.oJ hQ;have hpl:=hQ.len;have hm:=hK.typ.lim.s1;generalize hmm:k.decl.symbols.length=m at *;have hc:=hcl;refine gB 39 λB w0=>?_;refine gF ae jR cl λac cc ec=>?_;subst ec;refine gF bO vp p λJS cp ep=>?_;subst ep;refine go ?_;intro b3 b4 b5 b6;refine gP b3 ?_;refine gP b4 ?_;refine gP b5 ?_;refine go ?_;rw[hc];refine IK m ⟨z7,z7,z7⟩ λbs=>?_;rw[ahb];refine go ?_;refine IK m ⟨z7,z7,z7⟩ λbu=>?_;rw[VP];refine go ?_;intro b8 b9;refine go ?_;refine gP b8 ?_;refine gP b9 ?_;refine go ?_;refine aU (λj:Nat=>m - j) (λj=>[(24,iV (j:Int))]) (λj=>[pt bs (.cells ((sw (List.replicate j (-1)) m).map iV))]) (λ_=>[]) (λj=>j<=m) 0 (bR _) (hk:=As) (body:=?_);intro j hj;refine gIf ?_ ?_<;>intro h1
 .refine go ?_;refine qI (b:=bs) (o:=0+j*1) (cs:=(sw (List.replicate j (-1)) m).map iV) (v:=iV (-1)) (cs':=(sw (List.replicate (j+1) (-1)) m).map iV) (by rw[fo,uw,<- DD,ag8 (by rw[Gn]) z7,List.replicate_succ']) (by rw[bY,ag7 (by rw[Gn];omega)];omega) ?_;refine go ?_;exact aN (j+1) (by show m - (j+1)<m - j;omega) (by show j+1<=m;omega)
 have iR:m=j:=z7
 subst iR;rw[ag9 Gn];refine gC (ag6 (xs:=p) z7) λa ha=>?_;refine go ?_;intro b12;refine go ?_;have hg0:List.replicate m (-1)=fH cl (ed (aK k) (p.take 0)):=by
  rw[DK];show _=fH cl [];rw[NP,hc]
 have hs0:jv m []=jv m (fH cl (ed (aK k) (p.take 0))):=by rw[<- hg0,ai6]
 rw[hg0,hs0];rcases ha with⟨rfl,h0⟩|⟨b,f,rfl⟩
 .have hx:p=[]:=jy.1 h0;have hst:ed (aK k) (p.take 0)=ed (aK k) p:=by rw[hx];rfl
  rw[h0,hst];refine mR ?_;refine go ?_;refine eF (ai bO (.slice none 0 0) (bK (aK k) (dz (aK k) cl p) p)) (λw hw=>by rw[hx];exact .inl ⟨rfl,none,0,rfl,trivial⟩) ?_;refine aU (λj:Nat=>m - j) (λj=>[(75,iV (j:Int))]) (λj=>[pt bs (.cells ((fH cl (ed (aK k) p++(upTo' m).take j)).map iV)),pt bu (.cells (jv m (fH cl (ed (aK k) p++(upTo' m).take j))))]) (λ_=>[]) (λj=>j<=m) 0 (bR _) (hk:=Hj) (body:=?_);intro j hj;have F5:iP m (ed (aK k) p++(upTo' m).take j):=λx hx=>by
   exact mm
  have hgi:=(ak0 hc _ _ rfl F5).1;refine gIf ?_ ?_<;>intro h1
  .exact dc
  have iR:m=j:=z7
  subst iR;rw[ry Hv];have hfl:(fH cl (ed (aK k) p++upTo' m)).length=m:=(ak0 hc _ _ rfl (λx hx=>by
   exact tj)).1.len
  have hgr:fH cl (ed (aK k) p++upTo' m)=dz (aK k) cl p:=by unfold dz;rw[hc]
  rw[hgr]at hfl⊢;refine aie (A:=pt bs (.cells ((dz (aK k) cl p).map iV))) (fs:=[ai ae (sI bs m) (dz (aK k) cl p)]) K1 (h:=?_);refine go ?_;exact gQ ⟨(.slice none 0 0),sI bs m⟩ trivial
 refine adB bO λaC hxy hmx hf=>?_;have hxl:aC.length=p.length:=Ek
 refine aU (λy:Nat×kI CV=>p.length - y.1) (λy=>[(39,iV (y.1:Int))]) (λy=>[pt b (.cells (eG bO y.2)),pt bs (.cells ((fH cl (ed (aK k) (p.take y.1))).map iV)),pt bu (.cells (jv m (fH cl (ed (aK k) (p.take y.1)))))]) (λy=>[pG bO y.2]) (λy=>y.1<=p.length/\y.2.map (·.1)=bK (aK k) (dz (aK k) cl p) (p.take y.1)++p.drop y.1) (0,aC) ⟨bR _,by rw[hxy];rfl⟩ (hk:=As) (body:=?_);rintro⟨i,ys⟩ ⟨hi,hys⟩;dsimp only at hi hys⊢;have hyl:ys.length=p.length:=by
  have:=congrArg List.length hys;unfold bK at this;rw[bY,iH,bY,gT,sO]at this;omega
 have hin:=Ka hsy i;have hgi:=(ak0 hc _ _ rfl hin).1;refine gIf ?_ ?_<;>intro h1
 rotate_left
 .have hie:i=p.length:=by omega
  subst hie;rw[bU,alV,gU]at hys;rw[bU];have e0:eG bO ys=eG bO ys++[]:=(gU _).symm;rw[e0];refine adC bO (aC:=ys) (b:=b) (f:=f) (c:=p.length) hf z7 ?_ (λw hw=>hw (pG bO ys) An);rw[hyl,hys];refine go ?_;refine aU (λj:Nat=>m - j) (λj=>[(75,iV (j:Int))]) (λj=>[pt bs (.cells ((fH cl (ed (aK k) p++(upTo' m).take j)).map iV)),pt bu (.cells (jv m (fH cl (ed (aK k) p++(upTo' m).take j))))]) (λ_=>[]) (λj=>j<=m) 0 (bR _) (hk:=Hj) (body:=?_);intro j hj;have F5:iP m (ed (aK k) p++(upTo' m).take j):=λx hx=>by
   exact mm
  have hgi:=(ak0 hc _ _ rfl F5).1;refine gIf ?_ ?_<;>intro h1
  .exact dc
  have iR:m=j:=z7
  subst iR;rw[ry Hv];have hfl:(fH cl (ed (aK k) p++upTo' m)).length=m:=(ak0 hc _ _ rfl (λx hx=>by
   exact tj)).1.len
  have hgr:fH cl (ed (aK k) p++upTo' m)=dz (aK k) cl p:=by unfold dz;rw[hc]
  rw[hgr]at hfl⊢;refine aie (A:=pt bs (.cells ((dz (aK k) cl p).map iV))) (fs:=[ai ae (sI bs m) (dz (aK k) cl p)]) K1 (h:=?_);refine go ?_;exact gQ ⟨(.slice (some ⟨b,0,some f⟩) p.length p.length),sI bs m⟩ trivial
 obtain⟨g,hg⟩:∃g,p[i]? =some g:=⟨_,bP z7⟩
 have hgm:=aZ hg;obtain⟨⟨g',vg⟩,hy⟩:∃y:Clue×vI,ys[i]? =some y:=⟨_,bP z7⟩
 have hgg:g'=g:=by
  have h2:(ys.map (·.1))[i]? =some g':=by rw[dm,hy];rfl
  rw[hys,pR Hx,show i - (bK (aK k) (dz (aK k) cl p) (p.take i)).length=0 by unfold bK;rw[bY,gT];omega,oO,zM,hg]at h2;exact(Option.some.inj h2).symm
 subst hgg;obtain⟨c,L,r1,r2,r3,r4,r5,r6⟩:=hQ.right g' hgm;obtain⟨cn,hcn⟩:=jA r1;have hcc:=r2;rw[hcn,kJ]at hcc;have Xc:=(bq.1 hcc).1;have hsc:=Dr (k:=k) (g:=g') r2;refine go ?_;refine adA bO (o:=0+i*3) hy (by show 0+i*3=i*bO.n;rw[show bO.n=3 from rfl];omega) ?_;refine eF (ai ae vg g'.values) (λw hw=>hw (pG bO ys) An (g',vg) (aZ hy) _ (by simp[bO])) ?_;rw[show bO.pat (g',vg).1 (g',vg).2=[iV (cn:Int),iV g'.at_,vg]by rw[<- hcn];rfl];refine go ?_;intro b14;refine gX bI (xs:=k.decl.aJ) (k:=cn) λ_ _ c2 (_:Unit) hc2=>?_;rw[hcc]at hc2;obtain rfl:c=c2:=Option.some.inj hc2;refine go ?_;have hset:(ys.set i (iQ (aK k) (dz (aK k) cl p) g',vg)).map (·.1)=bK (aK k) (dz (aK k) cl p) (p.take (i+1))++p.drop (i+1):=by
  rw[DD,hys];have h3:p.drop i=g'::p.drop (i+1):=by
   have:=bq.1 hg;obtain⟨h4,h5⟩:=this;rw[oU h4,h5]
  have h4:(bK (aK k) (dz (aK k) cl p) (p.take i)).length=i:=Hx
  rw[h3,Gl _ _ z7,h4,vK,List.set_cons_zero];unfold bK;rw[bZ hg,fP,sQ,List.append_assoc];rfl
 refine aA rfl ?_ ?_<;>intro t1
 rotate_left
 .have Xd:aK k g'.adJ=false:=by rw[hsc];exact aR t1
  have hrc:iQ (aK k) (dz (aK k) cl p) g'=g':=by unfold iQ;rw[Xd];rfl
  rw[hrc]at hset;have hse:ys.set i (g',vg)=ys:=by
   apply iY;intro q;rw[oQ];split
   .rename_i e;subst e;rw[if_pos z7,hy]<;>rfl
   .rfl
  rw[hse]at hset;have hst:ed (aK k) (p.take (i+1))=ed (aK k) (p.take i):=by rw[J9 hg,Xd];simp
  refine go ?_;refine aN (i+1,ys) BD ⟨by dsimp only;omega,hset⟩ (hk:=by dsimp only;rw[hst];repeat (first|exact aI.nil|(apply aI.cons;(focus (repeat (first|exact az.here|apply az.there))))))
 have Pp:aK k g'.adJ=true:=by rw[hsc];exact dK t1
 obtain⟨v0,hv0,F6,Xe⟩:=hsy g' hgm Pp;obtain⟨lJ,rfl⟩:=jA F6;have hst:ed (aK k) (p.take (i+1))=ed (aK k) (p.take i)++[(lJ:Int)]:=by rw[J9 hg,Pp,if_pos rfl,hv0]
 rw[hv0];refine gX ae (xs:=[(lJ:Int)]) (k:=0) (h1:=An) λ_ _ x (_:Unit) hx=>?_;have hx0:(lJ:Int)=x:=AM
 subst hx0;refine gC (Po (b4:=b4) (b8:=b8) (b9:=b9) (bs:=bs) (bu:=bu) (m:=m) (cl:=cl) (sy:=fH cl (ed (aK k) (p.take i))) (s:=(lJ:Int)) (vc:=.slice ac m cc) hc z7 hgi.len z7 z7) λ_ _=>?_;rw[<- wD,<- hst];have hgl:(fH cl (ed (aK k) (p.take (i+1)))).length=m:=(ak0 hc _ _ rfl (Ka hsy (i+1))).1.len;have hz:aB (fH cl (ed (aK k) (p.take (i+1)))) (lJ:Int)=aB (dz (aK k) cl p) (lJ:Int):=aja hc hsy (i+1) (by rw[hst];simp);refine gX ae (xs:=[(lJ:Int)]) (k:=0) (h1:=An) λ_ _ x (_:Unit) hx=>?_;have hx0:(lJ:Int)=x:=AM
 subst hx0;refine go ?_;refine qh (b:=bs) (o:=0+lJ*1) (cs:=(fH cl (ed (aK k) (p.take (i+1)))).map iV) (iV (aB (fH cl (ed (aK k) (p.take (i+1)))) (lJ:Int))) (Xa rfl z7) ?_;rw[hz];refine go ?_;intro zH;refine go ?_;refine gZ VQ ?_;have hrc:iQ (aK k) (dz (aK k) cl p) g'=⟨g'.adJ,g'.at_,[aB (dz (aK k) cl p) (lJ:Int)]⟩:=by unfold iQ;rw[Pp,if_pos rfl,hv0];rfl
 refine qI (b:=b) (o:=0+i*3+2) (cs:=eG bO ys) (v:=sI zH 1) (cs':=eG bO (ys.set i (iQ (aK k) (dz (aK k) cl p) g',sI zH 1))) (by rw[hrc];exact ai8 hy) (by rw[za,show bO.n=3 from rfl];omega) ?_;refine eF (pG bO (ys.set i (iQ (aK k) (dz (aK k) cl p) g',sI zH 1))) (λw hw q hq f hf=>by
  rcases anJ hq with h|h
  .exact hw (pG bO ys) An q h f hf
  .subst h;rw[hrc]at hf;have:f=ai ae (sI zH 1) [aB (dz (aK k) cl p) (lJ:Int)]:=by simpa[bO]using hf
   rw[this];exact hw (ai ae (sI zH 1) [aB (dz (aK k) cl p) (lJ:Int)]) An) ?_
 refine go ?_;refine aN (i+1,ys.set i (iQ (aK k) (dz (aK k) cl p) g',sI zH 1)) BD ⟨by dsimp only;omega,by dsimp only;rw[<- hset,DD,DD]⟩
structure Dv(k:bD)(p:List Clue)(cl:List Int)(e:Int):Prop where
 nk:¬dH k->e=180
 np:dH k->¬age k p->e=190
 nc:dH k->age k p->¬akC k.decl.symbols.length cl->e=1
 ok:dH k->age k p->akC k.decl.symbols.length cl->e=0
structure Pq where
 v:Value
 s:Value
 e:Int
def ajd(hl:xs.length<2^63):fC prog 41 [v,iV (n:Int)] [ai ae v xs] (λb:Bool=>.bool b) (λb=>b=true↔akC n xs):=by
 refine gB 41 λB w0=>?_;refine gF ae v xs λav cv ev=>?_;subst ev;refine gN xs.length 5 (λk=>k<=xs.length/\um xs k) ⟨bR _,λi h=>absurd h (ak5 _)⟩ ?_;rintro k ⟨hk,hall⟩;refine gIf ?_ ?_<;>intro h1
 .exact cS
 exact hU
def BC(cl sy:kI Int)(s:Int):kI Int:=match ug cl sy s with
 |none=>sy
 |some t=>sy.set s.toNat (t:Int)
def Xi(h:aB sy s<0):BC cl sy s=pK cl sy s:=by
 unfold BC pK;rw[if_neg z7];rfl
def Xj(h:0<=aB sy s):pK cl sy s=sy:=by
 unfold pK;rw[if_pos h]
def aje{k:Nat}(hk:k<cl.length)(h1:aB cl (k:Int)=aB cl s)(h2:(k:Int)∉sy)(h3:∀t:Nat,t<k->¬(aB cl (t:Int)=aB cl s/\(t:Int)∉sy)):ug cl sy s=some k:=by
 unfold ug;rw[List.find?_range_eq_some];refine⟨by simp[h1,h2],ol.2 hk,λj hj=>?_⟩;have:=h3 j hj;exact pb
def ajf(h3:∀t:Nat,t<cl.length->¬(aB cl (t:Int)=aB cl s/\(t:Int)∉sy)):ug cl sy s=none:=by
 unfold ug;rw[anG];intro j hj;have:=h3 j (ol.1 hj);exact pb
def Xk{s:Nat}{va vb:vI}(hc:cl.length=m)(hm:m<=4096)(hl:sy.length=m)(s1:s<m):FnS prog 81 [va,vb,iV (s:Int)] [ai ae va cl,ai ae vb sy] ae (BC cl sy (s:Int)):=by
 refine gB 81 λB w0=>?_;refine gF ae va cl λaa ca ea=>?_;subst ea;refine gF ae vb sy λab cb eb=>?_;subst eb;refine go ?_;intro b11;refine go ?_;refine acO (xs:=sy) z7 ⟨z7,z7⟩ (λb'=>?_);refine gN cl.length 8 (λk=>k<=cl.length/\∀t:Nat,t<k->¬(aB cl (t:Int)=aB cl (s:Int)/\(t:Int)∉sy)) ⟨bR _,λt h=>absurd h (ak5 _)⟩ ?_;rintro k ⟨hk,hno⟩;refine gIf ?_ ?_<;>intro h1
 rotate_left
 .have hke:k=cl.length:=by omega
  subst hke;have hO:BC cl sy (s:Int)=sy:=by unfold BC;rw[ajf hno]
  refine aie (A:=pt b' (.cells (sy.map iV))) (fs:=[ai ae (.slice (some ⟨b',0,some 1⟩) sy.length sy.length) sy]) (uR (b:=b') (f:=1) (c:=sy.length) (xs:=sy) (hf:=.inr rfl) (hc:=bT _)) (h:=?_);exact rS
 refine go ?_;refine aU (λi=>sy.length - i) (λi:Nat=>[(10,iV (i:Int)),(9,.bool (decide ((k:Int)∈sy.take i)))]) (λ_=>[]) (λ_=>[]) (λi=>i<=sy.length) 0 (bR _) (hl:=⟨rfl,by show Value.bool false=_;simp,D0⟩) (body:=?_);intro i hi;refine gIf ?_ ?_<;>intro h2
 .obtain⟨x,hx⟩:∃x,sy[i]? =some x:=⟨_,bP z7⟩
  have htk:=bZ hx;by_cases hin:(k:Int)∈sy.take i
  .rw[dK hin];refine go ?_;exact aN (i+1) z7 z7 (hl:=⟨rfl,by show Value.bool true=_;rw[dK (show(k:Int)∈sy.take (i+1)by rw[htk];exact je _ hin)],D0⟩)
  .rw[aR hin];refine go ?_;intro _ _ x2 hx2;rw[hx]at hx2;obtain rfl:x=x2:=Option.some.inj hx2;refine go ?_;refine aN (i+1) z7 z7 (hl:=⟨rfl,congrArg Value.bool (nO.2 ?_),D0⟩);rw[htk,dX,bM];exact⟨λe=>.inr e.symm,λe=>(e.resolve_left hin).symm⟩
 have hie:i=sy.length:=z7
 subst hie;rw[bU];refine go ?_;intro _ _ x hx;refine go ?_;intro _ _ y hy;have hxg:=ji hx;have hyg:=ji hy;refine gH ?_ ?_<;>intro h3
 .refine go ?_;exact aN (k+1) z7 ⟨z7,λt ht q=>by
   by_cases e:t=k
   .subst e;rw[hxg,hyg]at q;exact h3 q.1
   .exact hno t z7 q⟩
 refine go ?_;refine fq rfl (λh4=>?_) (λh4=>?_)
 rotate_left
 .refine go ?_;exact aN (k+1) z7 ⟨z7,λt ht q=>by
   by_cases e:t=k
   .subst e;exact q.2 h4
   .exact hno t z7 q⟩
 have hO:BC cl sy (s:Int)=sy.set s (k:Int):=by
  unfold BC;rw[aje z7 (by rw[hxg,hyg];exact h3) h4 hno];rfl
 refine go ?_;refine qI (b:=b') (o:=0+s*1) (cs:=sy.map iV) (v:=iV (k:Int)) (cs':=(sy.set s (k:Int)).map iV) (by rw[fo,uw,DD]) CA ?_;have hsl:(sy.set s (k:Int)).length=sy.length:=pV;refine aie (A:=pt b' (.cells ((sy.set s (k:Int)).map iV))) (fs:=[ai ae (.slice (some ⟨b',0,some 1⟩) sy.length sy.length) (sy.set s (k:Int))]) (by have:=uR (b:=b') (f:=1) (c:=sy.length) (xs:=sy.set s (k:Int)) (hf:=.inr rfl) (hc:=by rw[hsl];exact bT _);rw[hsl]at this;exact this) (h:=?_);exact rS
def ajg(hK:dH k)(hQ:age k p)(hcl:cl.length=k.decl.symbols.length):
 bA prog (.func 42) [.agg ⟨kZ k vh vs vr vc vu gh gc vn vl⟩,jR,.agg ⟨[vp]⟩] [] [] [ai ae jR cl,ai bO vp p,ai bI vc k.decl.aJ] (λv:vI=>v) (λ_=>[])
  (λv=>[ai ae v (dz (aK k) cl p)]) (λ_=>True):=by
 have hsy:=age.oJ hQ;have hpl:=hQ.len;have hm:=hK.typ.lim.s1;generalize hmm:k.decl.symbols.length=m at *;have hc:=hcl;refine gB 42 λB w0=>?_;refine gF ae jR cl λac cc ec=>?_;subst ec;refine gF bO vp p λJS cp ep=>?_;subst ep;refine go ?_;intro b3 b5 b12;refine Sg ae az.here ?_;refine gP b3 ?_;refine gP b5 ?_;refine go ?_;rw[hc];refine aU (λy:Nat×vI=>m - y.1) (λy=>[(8,iV (y.1:Int)),(7,y.2)]) (λy=>[ap ae y.2 (List.replicate y.1 (-1))]) (λ_=>[]) (λy=>y.1<=m) (0,.slice (some ⟨b12,0,some 0⟩) 0 0) (bR _) (hk:=As) (body:=?_);rintro⟨j,v7⟩ hj;dsimp only at hj⊢;have hrl:(List.replicate j (-1:Int)).length=j:=Gn;refine gIf ?_ ?_<;>intro h1
 .refine go ?_;intro b20;refine go ?_;refine fB (xs:=List.replicate j (-1)) ae (-1) () z7 (next:=λad=>?_);rw[<- List.replicate_succ'];refine go ?_;exact aN (j+1,.slice ad ((List.replicate j (-1:Int)).length+1) ((List.replicate j (-1:Int)).length+1)) (by show m - (j+1)<m - j;omega) (by show j+1<=m;omega)
 have iR:j=m:=z7
 subst iR;refine aie (A:=ap ae v7 (List.replicate j (-1))) (fs:=[ai ae v7 (List.replicate j (-1))]) gz (h:=?_);rw[show List.replicate j (-1)=fH cl (ed (aK k) (p.take 0))by rw[DK];show _=fH cl [];rw[NP,hc]];refine go ?_;generalize hmj:j=m at *;refine aU (λy:Nat×vI=>p.length - y.1) (λy=>[(9,iV (y.1:Int)),(7,y.2)]) (λ_=>[]) (λy=>[ai ae y.2 (fH cl (ed (aK k) (p.take y.1)))]) (λy=>y.1<=p.length) (0,v7) (bR _) (body:=?_);rintro⟨i,Kc⟩ hi;dsimp only at hi⊢;have hin:=Ka hsy i;have hgi:=(ak0 hc _ _ rfl hin).1;have hgl:=hgi.len;refine gIf ?_ ?_<;>intro h1
 .refine gX bO (xs:=p) (k:=i) λ_ _ g (vg:vI) hg=>?_;have hgm:=aZ hg;obtain⟨c,L,r1,r2,r3,r4,r5,r6⟩:=hQ.right g hgm;obtain⟨cn,hcn⟩:=jA r1;have hcc:=r2;rw[hcn,kJ]at hcc;have Xc:=(bq.1 hcc).1;have hsc:=Dr (k:=k) (g:=g) r2;obtain⟨gcl,zJ,Ke⟩:=g;dsimp only at hcn r1 r2 hsc;subst hcn;refine go ?_;intro b10;refine gP b10 ?_;refine gX bI (xs:=k.decl.aJ) (k:=cn) λ_ _ c2 (_:Unit) hc2=>?_;rw[hcc]at hc2;obtain rfl:c=c2:=Option.some.inj hc2;refine gH ?_ ?_<;>intro t1
  .have hst:ed (aK k) (p.take (i+1))=ed (aK k) (p.take i):=by rw[J9 hg,hsc,aR t1];simp
   refine go ?_;exact aN (i+1,Kc) BD AK (hF:=by dsimp only;rw[hst];repeat (first|exact Sub.nil|(apply Sub.cons;(focus (repeat (first|exact cB .. |apply cO))))))
  obtain⟨v0,hv0,F6,Xe⟩:=hsy _ hgm (by rw[hsc];exact dK t1);dsimp only at hv0;subst hv0;obtain⟨lJ,rfl⟩:=jA F6;have hst:ed (aK k) (p.take (i+1))=ed (aK k) (p.take i)++[(lJ:Int)]:=by rw[J9 hg,hsc,dK t1,if_pos rfl]
  refine go ?_;intro _ _ x hx;have hx0:(lJ:Int)=x:=AM
  subst hx0;refine go ?_;intro _ _ z hz;have hzg:=ji hz;refine gIf ?_ ?_<;>intro h2
  rotate_left
  .have hsame:fH cl (ed (aK k) (p.take (i+1)))=fH cl (ed (aK k) (p.take i)):=by rw[hst,wD,Xj z7]
   refine go ?_;exact aN (i+1,Kc) BD AK (hF:=Kf)
  refine go ?_;intro _ _ x hx;have hx0:(lJ:Int)=x:=AM
  subst hx0;refine gC (Xk (va:=.slice ac m cc) (vb:=Kc) (m:=m) (cl:=cl) (sy:=fH cl (ed (aK k) (p.take i))) (s:=lJ) hc z7 hgl z7) λPs _=>?_;rw[Xi z7,<- wD,<- hst];refine go ?_;exact aN (i+1,Ps) BD AK
 have hie:i=p.length:=z7
 subst hie;rw[bU];refine go ?_;refine aU (λy:Nat×vI=>m - y.1) (λy=>[(11,iV (y.1:Int)),(7,y.2)]) (λ_=>[]) (λy=>[ai ae y.2 (fH cl (ed (aK k) p++(upTo' m).take y.1))]) (λy=>y.1<=m) (0,Kc) (bR _) (hF:=by dsimp only;rw[DK,gU];repeat (first|exact Sub.nil|(apply Sub.cons;(focus (repeat (first|exact cB .. |apply cO)))))) (body:=?_);rintro⟨q,v8⟩ hq;dsimp only at hq⊢;have F5:iP m (ed (aK k) p++(upTo' m).take q):=λx hx=>by
  exact mm
 have aji:=(ak0 hc _ _ rfl F5).1;have ajj:=aji.len;refine gIf ?_ ?_<;>intro h1
 .have hnx:(upTo' m)[q]? =some (q:Int):=by
   unfold upTo';rw[dm,pU z7];rfl
  have hst:ed (aK k) p++(upTo' m).take (q+1)=(ed (aK k) p++(upTo' m).take q)++[(q:Int)]:=by rw[bZ hnx,List.append_assoc]
  refine go ?_;intro _ _ z hz;have hzg:=ji hz;refine gIf ?_ ?_<;>intro h2
  rotate_left
  .have hsame:fH cl (ed (aK k) p++(upTo' m).take (q+1))=fH cl (ed (aK k) p++(upTo' m).take q):=by rw[hst,wD,Xj z7]
   refine go ?_;exact aN (q+1,v8) (by show m - (q+1)<m - q;omega) Hs (hF:=Kf)
  refine gC (Xk (va:=.slice ac m cc) (vb:=v8) (m:=m) (cl:=cl) (sy:=fH cl (ed (aK k) p++(upTo' m).take q)) (s:=q) hc z7 ajj z7) λPs _=>?_;rw[Xi z7,<- wD,<- hst];refine go ?_;exact aN (q+1,Ps) (by show m - (q+1)<m - q;omega) Hs
 have hqe:q=m:=z7
 subst hqe;have hgr:fH cl (ed (aK k) p++(upTo' q).take q)=dz (aK k) cl p:=by
  rw[ry Hv];unfold dz;rw[hc]
 rw[hgr];refine go ?_;exact gQ v8 trivial
def Pt{t:kI Int}{vt:vI}(hpl:p.length<=4096)(hcl:∀g∈p,0<=g.adJ/\g.adJ<k.decl.aJ.length)(hsy:oK (aK k) m p)(hm:m<=t.length):
 bA prog (.func 24) [.agg ⟨kZ k vh vs vr vc vu gh gc vn vl⟩,vt,.agg ⟨[vp]⟩] [] [] [ai ae vt t,ai bO vp p,ai bI vc k.decl.aJ] (λv:vI=>.agg ⟨[v]⟩) (λ_=>[])
  (λv=>[ai bO v (bK (aK k) t p)]) (λ_=>True):=by
 refine gB 24 λB w0=>?_;refine gF ae vt t λuS ct et=>?_;subst et;refine gF bO vp p λJS cp ep=>?_;subst ep;refine go ?_;intro b3 b5 b6 b7;refine gP b3 ?_;refine gP b5 ?_;refine go ?_;refine af5 bO ?_;refine aU (λy:Nat×vI=>p.length - y.1) (λy=>[(8,iV (y.1:Int))]) (λy=>[pt b7 (.cells [y.2]),ap bO y.2 (bK (aK k) t (p.take y.1))]) (λ_=>[]) (λy=>y.1<=p.length) (0,.slice none 0 0) (bR _) (hk:=As) (body:=?_);rintro⟨i,v7⟩ hi;dsimp only at hi⊢;have hrl:(bK (aK k) t (p.take i)).length=i:=Hx
 refine gIf ?_ ?_<;>intro h1
 rotate_left
 .have hie:i=p.length:=by omega
  subst hie;rw[bU];refine aie (A:=ap bO v7 (bK (aK k) t p)) (fs:=[ai bO v7 (bK (aK k) t p)]) gz (h:=?_);refine go ?_;exact gQ v7 trivial
 refine gX bO (xs:=p) (k:=i) λ_ _ g (vg:vI) hg=>?_;have hgm:=aZ hg;obtain⟨g0,g1⟩:=hcl g hgm;obtain⟨cn,hcn⟩:=jA g0;obtain⟨c,hcc⟩:∃c,k.decl.aJ[cn]? =some c:=⟨_,bP z7⟩
 have hsc:=Dr (k:=k) (g:=g) (c:=c) (by rw[hcn,kJ];exact hcc);have htk:bK (aK k) t (p.take (i+1))=bK (aK k) t (p.take i)++[iQ (aK k) t g]:=by
  unfold bK;rw[bZ hg,fP,sQ]
 obtain⟨gcl,zJ,Ke⟩:=g;dsimp only at hcn g0 g1 hsc;subst hcn;dsimp only;have Xc:=(bq.1 hcc).1;refine go ?_;intro b9;refine gX bI (xs:=k.decl.aJ) (k:=cn) λ_ _ c2 (_:Unit) hc2=>?_;rw[hcc]at hc2;obtain rfl:c=c2:=Option.some.inj hc2;refine gIf ?_ ?_<;>intro t1
 .have hs1:aK k (cn:Int)=true:=by rw[hsc];exact dK t1
  obtain⟨v0,hv0,F6,Xe⟩:=hsy _ hgm hs1;dsimp only at hv0;subst hv0;obtain⟨lJ,rfl⟩:=jA F6;refine gX ae (xs:=[(lJ:Int)]) (k:=0) (h1:=An) λ_ _ x (_:Unit) hx=>?_;have hx0:(lJ:Int)=x:=AM
  subst hx0;refine go ?_;intro _ _ z hz;have hzg:=ji hz;refine go ?_;intro Ox VU;refine gZ VQ ?_;have hrc:iQ (aK k) t ⟨(cn:Int),zJ,[(lJ:Int)]⟩=⟨(cn:Int),zJ,[z]⟩:=by
   unfold iQ;dsimp only;rw[hs1,if_pos rfl];show(⟨(cn:Int),zJ,[aB t (lJ:Int)]⟩:Clue)=_;rw[hzg]
  rw[hrc]at htk;refine fB bO (xs:=bK (aK k) t (p.take i)) ⟨(cn:Int),zJ,[z]⟩ (sI Ox 1) z7 (next:=λad=>?_);rw[<- htk];refine go ?_;exact aN (i+1,.slice ad ((bK (aK k) t (p.take i)).length+1) ((bK (aK k) t (p.take i)).length+1)) BD AK
 have hrc:iQ (aK k) t ⟨(cn:Int),zJ,Ke⟩=⟨(cn:Int),zJ,Ke⟩:=by
  unfold iQ;dsimp only;rw[hsc,aR t1];rfl
 rw[hrc]at htk;refine go ?_;intro VU;refine go ?_;refine fB bO (xs:=bK (aK k) t (p.take i)) ⟨(cn:Int),zJ,Ke⟩ vg z7 (next:=λad=>?_);rw[<- htk];refine go ?_;exact aN (i+1,.slice ad ((bK (aK k) t (p.take i)).length+1) ((bK (aK k) t (p.take i)).length+1)) BD AK
def Pv(h:age k p):∀g∈p,0<=g.adJ/\g.adJ<k.decl.aJ.length:=λg hg=>by
 obtain⟨c,L,r1,r2,_⟩:=h.right g hg;have:=(bq.1 r2).1;exact⟨r1,z7⟩
