/- Part. -/
import Derived.Test.YtoilpafpgndilaaGreatLibMJ
set_option linter.all false
set_option maxRecDepth 10000
set_option maxHeartbeats 4000000
namespace Go.Proofs.YtoilpafpgndilaaGreat
open Go.Ideal Kd Canon
def Dt(cl:ae Int)(n:Nat):Prop:=∀i:Nat,i<n->0<=aH cl (i:Int)/\aH cl (i:Int)<=(i:Int)/\aH cl (aH cl (i:Int))=aH cl (i:Int)
variable{cl:ae Int}{n:Nat}
def Dt.step(h:Dt cl n){x:Int}(hx:cl[n]? =some x)(h1:0<=x)(h2:x<=(n:Int))(h3:aH cl x=x):Dt cl (n+1):=λi hi=>by
 by_cases e:i=n
 .subst e;rw[iW hx];exact⟨h1,h2,h3⟩
 .exact h i s6
variable{m:Nat}
def Dt.not{x:Int}(hx:cl[n]? =some x)(h:¬(0<=x/\x<=(n:Int)/\aH cl x=x))(b:Bool)(hb:b=false):b=true↔zG m cl:=by
 subst hb;refine⟨(λe=>by cases e),λq=>absurd ?_ h⟩;have hl:=(aV.1 hx).1;have:=q.pK n (by rw[<- q.len];exact hl)
 rwa [iW hx]at this
variable{xs:ae Int}
def aqA{v:ah}(hl:xs.length<2^63):fC Tryz.prog 38 [v,iV (n:Int)] [aj ai v xs] (λb:Bool=>.bool b) (λb=>b=true↔zG n xs):=by
 refine gB 38 λB w0=>?_;refine gF ai v xs λav cv ev=>?_;subst ev;refine gN xs.length 9 (λk=>k<=xs.length/\Dt xs k) ⟨bM _,λi h=>absurd h (yU _)⟩ ?_;rintro k ⟨hk,hall⟩;refine aO ?_ ?_<;>intro h1
 .refine go ?_;intro _ _ x hx;refine gH ?_ ?_<;>intro h2
  rotate_left
  .exact pP
  refine gH ?_ ?_<;>intro h3
  rotate_left
  .exact pP
  obtain⟨xn,rfl⟩:=gV (by omega:0<=x);refine go ?_;intro _ _ y hy;refine aO ?_ ?_<;>intro h4
  .refine go ?_;exact gQ false (Dt.not hx (λq=>by have:=q.2.2;rw[iW hy]at this;exact h4 this) _ rfl)
  refine go ?_;exact aU (k+1) s6 ⟨s6,hall.step hx s6 s6 (by rw[iW hy];exact kv.1 h4)⟩
 have hke:k=xs.length:=s6
 subst hke;refine go ?_;refine gQ (decide ((xs.length:Int)=(n:Int))) ?_;rw[jQ];exact⟨λe=>⟨s6,λi hi=>hall i s6⟩,λq=>by have:=q.len;omega⟩
def lI(cl sy:ae Int)(s:Int):Nat->ae Int
 |0=>sy
 |k+1=>if aH (lI cl sy s k) s<0/\aH cl (k:Int)=aH cl s/\(k:Int)∉lI cl sy s k then(lI cl sy s k).set s.toNat (k:Int)else lI cl sy s k
def Va(cl sy:ae Int)(s:Int):∀k,(lI cl sy s k).length=sy.length
 |0=>rfl
 |k+1=>by
  unfold lI;split
  .rw[ku,Va cl sy s k]
  .exact Va cl sy s k
def adi{cl sy:ae Int}{s:Int}(s0:0<=s)(s1:s<sy.length):∀k,lI cl sy s k=if 0<=aH sy s then sy else(match (List.range k).find? (λt:Nat=>decide (aH cl (t:Int)=aH cl s)&&!decide ((t:Int)∈sy))with
 |none=>sy
 |some t=>sy.set s.toNat (t:Int))
 |0=>by
  rw[List.range_zero,List.find?_nil];dsimp only;rw[ite_self];rfl
 |k+1=>by
  have ih:=adi (cl:=cl) s0 s1 k;unfold lI;rw[ih];by_cases h0:0<=aH sy s
  .rw[if_pos h0,if_pos h0,if_neg s6]
  .rw[if_neg h0,if_neg h0,Ag,List.find?_append];cases hf:(List.range k).find? (λt:Nat=>decide (aH cl (t:Int)=aH cl s)&&!decide ((t:Int)∈sy))with
   |some t=>
    dsimp only[Option.some_or];rw[if_neg];rintro⟨h,_⟩;rw[EJ s0 s1 s0,if_pos rfl]at h;omega
   |none=>
    dsimp only[Option.none_or];rw[List.find?_cons,List.find?_nil];by_cases hc:aH cl (k:Int)=aH cl s
    .by_cases hm:(k:Int)∈sy
     .rw[if_neg (λq=>q.2.2 hm),eT hm];simp
     .rw[if_pos ⟨s6,hc,hm⟩,bY hm,eT hc];simp
    .rw[if_neg (λq=>hc q.2.1),bY hc];simp
variable{s:Int}
def aqB{sy:ae Int}(hc:cl.length=m)(hl:sy.length=m)(s0:0<=s)(s1:s<(m:Int)):lI cl sy s m=xy cl sy s:=by
 rw[adi s0 s6 m];unfold xy EI;rw[hc];rfl
def aqC{s j:Nat}(hs:s<xs.length)(hneg:aH xs (s:Int)<0)(hj:j<n):(nR n xs).set (0+j*1) (.bool true)=nR n (xs.set s (j:Int)):=by
 rw[eB,lK];apply iH;intro i;rw[nY,abp];unfold nR;by_cases hi:i<n
 .rw[bU,oI hi,bU,oI hi];by_cases e:j=i
  .subst e;have:(j:Int)∈xs.set s (j:Int):=aT (i:=s) (by rw[List.getElem?_set_self hs]);simp[hj,this]
  .rw[if_neg e];have:((i:Int)∈xs.set s (j:Int))↔(i:Int)∈xs:=by
    constructor
    .intro h;rcases VQ h with h|h
     .exact h
     .omega
    .intro h;obtain⟨q,hq⟩:=iM h;have hne:s≠q:=λe=>by
      subst e;rw[iW hq]at hneg;omega
     exact aT (i:=q) (by rw[List.getElem?_set_ne hne];exact hq)
   show some (Value.bool (decide ((i:Int)∈xs)))=some (Value.bool (decide ((i:Int)∈xs.set s (j:Int))));rw[rF.2 this]
 .exact j8
def aqD(n m:Nat):nR n (List.replicate m (-1))=nR n []:=by
 unfold nR;refine sD λj _=>?_;have:¬((j:Int)∈List.replicate m (-1:Int)):=λh=>by
  have:=(List.mem_replicate.1 h).2;omega
 rw[bY this];simp
def adj{k:Nat}(hs:s=(k:Int))(hk:k<xs.length):(xs.map (Value.int .i64))[0+k*1]? =some (Value.int .i64 (aH xs s)):=by
 subst hs;rw[eB,lK,bU];have:=oQ (p:=xs) (c:=(k:Int)) s6 s6;rw[fM]at this;rw[this];rfl
abbrev xJ(b m:Nat):ah:=.slice (some ⟨b,0,some 0⟩) m m
variable{vc:ah}
def Vb{b4 b8 b9 bs bu:Nat}{sy:ae Int}(hc:cl.length=m)(hm:m<=4096)(hG:sy.length=m)(s0:0<=s)(s1:s<(m:Int)):
 aX Tryz.prog (.func 77) [iV s] [ptr' b4,ptr' b8,ptr' b9] [pt bs (.cells (sy.map iV)),pt bu (.cells (nR m sy))] [bW b4 0 [vc],aj ai vc cl,bW b8 0 [xJ bs m],bW b9 0 [xJ bu m]] (λ_:Unit=>.tuple ⟨[]⟩)
  (λ_=>[pt bs (.cells ((xy cl sy s).map iV)),pt bu (.cells (nR m (xy cl sy s)))]) (λ_=>[]) (λ_=>True):=by
 have hS:=aqB (cl:=cl) (sy:=sy) hc hG s0 s1;have hrl:=Va cl sy s;obtain⟨sn,rfl⟩:=gV s0;refine gB 77 λB w0=>?_;refine gF ai vc cl λacl ccl Kz=>?_;subst Kz;refine go ?_;refine dV (λk:Nat=>m - k) (λk=>[(8,iV (k:Int))]) (λk=>[pt bs (.cells ((lI cl sy (sn:Int) k).map iV)),pt bu (.cells (nR m (lI cl sy (sn:Int) k)))]) (λ_=>[]) (λk=>k<=m) 0 (bM _) (hk:=s9) (body:=?_);intro k hk;have Uc:=hrl k;have hno:¬(aH (lI cl sy (sn:Int) k) (sn:Int)<0/\aH cl (k:Int)=aH cl (sn:Int)/\(k:Int)∉lI cl sy (sn:Int) k)->lI cl sy (sn:Int) (k+1)=lI cl sy (sn:Int) k:=λh=>if_neg h;have aqE:(aH (lI cl sy (sn:Int) k) (sn:Int)<0/\aH cl (k:Int)=aH cl (sn:Int)/\(k:Int)∉lI cl sy (sn:Int) k)->lI cl sy (sn:Int) (k+1)=(lI cl sy (sn:Int) k).set sn (k:Int):=λh=>if_pos h;refine aO ?_ ?_<;>intro h1
 rotate_left
 .have hke:k=m:=by omega
  subst hke;rw[hS];exact eH
 refine go ?_;refine ol (b:=bs) (o:=0+sn*1) (cs:=(lI cl sy (sn:Int) k).map iV) (iV (aH (lI cl sy (sn:Int) k) (sn:Int))) (adj rfl s6) ?_;refine gH ?_ ?_<;>intro h2
 .refine go ?_;have e:=hno (λq=>h2 q.1);exact cT
 refine go ?_;intro _ _ x hx;refine go ?_;intro _ _ y hy;have hxg:=iW hx;have hyg:=iW hy;refine gH ?_ ?_<;>intro h3
 .refine go ?_;have e:=hno (λq=>h3 (by rw[<- hxg,<- hyg];exact q.2.1));exact cT
 refine go ?_;refine ol (b:=bu) (o:=0+k*1) (cs:=nR m (lI cl sy (sn:Int) k)) (.bool (decide ((k:Int)∈lI cl sy (sn:Int) k))) (al9 s6) ?_;refine go ?_;refine sQ rfl (λh4=>?_) (λh4=>?_)
 rotate_left
 .refine go ?_;have e:=hno (λq=>q.2.2 h4);exact cT
 have e:=aqE ⟨h2,by rw[hxg,hyg];exact h3,h4⟩;refine go ?_;refine(Rk (b:=bs) (o:=0+sn*1) (cs:=(lI cl sy (sn:Int) k).map iV) (vs:=[iV (k:Int)]) (c:=(lI cl sy (sn:Int) (k+1)).map iV) rfl rfl rfl rfl rfl zd (by rw[LK _ _ _ tU,e,eB,lK,pQ]) (by repeat (first|exact Cy|refine Ga rfl Fc rfl rfl ?_|refine Rj (Je rfl) rfl ?_))).h ?_;refine go ?_;refine jN (b:=bu) (o:=0+k*1) (cs:=nR m (lI cl sy (sn:Int) k)) (v:=.bool true) (cs':=nR m (lI cl sy (sn:Int) (k+1))) (by rw[e,aqC s6 h2 s6]) (by rw[abp];omega) ?_;refine go ?_;exact aU (k+1) Bs Bx
variable{i:Nat}{g:Clue}
def aqF{ys:ae CV}{v w:aY.Y}{vs:ae Int}(hy:ys[i]? =some (g,w)):(cO aY ys).set (0+i*3+2) v=cO aY (ys.set i (⟨g.aS,g.at_,vs⟩,v)):=by
 induction ys generalizing i with
 |nil=>cases hy
 |cons y ys ih=>
  have hp:∀(y:CV) (ys:ae CV),cO aY (y::ys)=(Value.int .i64 y.1.aS::Value.int .i64 y.1.at_::y.2::cO aY ys:ae ah):=λ_ _=>rfl;cases i with
  |zero=>
   cases hy;rfl
  |succ i=>
   have h2:ys[i]? =some (g,w):=hy;rw[List.set_cons_succ,hp,hp,<- ih h2,show 0+(i+1)*3+2=(0+i*3+2)+3 by omega];rfl
variable{p:ae Clue}{sy:Int->Bool}
def adl(h:p[i]? =some g):iq sy (p.take (i+1))=iq sy (p.take i)++(if sy g.aS then g.values else[]):=by
 unfold iq;rw[fF h,KQ,List.flatMap_singleton]
def aqG(i:Nat):∃r,iq sy p=iq sy (p.take i)++r:=by
 refine⟨iq sy (p.drop i),?_⟩;unfold iq;rw[<- KQ,nE]
def Vd(h:rY sy m p)(i:Nat):iY m (iq sy (p.take i)):=Bl λg hg=>h g (xK hg)
def aqH(hc:cl.length=m)(h:rY sy m p)(i:Nat){v:Int}(hv:v∈iq sy (p.take i)):aH (iR cl (iq sy (p.take i))) v=aH (fZ sy cl p) v:=by
 obtain⟨r,hr⟩:=aqG (sy:=sy) (p:=p) i;unfold fZ;rw[hr,hc,List.append_assoc];have hr2:iY m (r++upTo' m):=λx hx=>by
  rcases fq.1 hx with hx|hx
  .exact Bl h x (by rw[hr];exact nD _ hx)
  .exact(bD.ident m).dJ x hx
 exact(S9 hc _ (Vd h i) hv _ _ rfl hr2).symm
structure RnY where
 v:Value
 s:Value
def aqJ{k:aQ}{vh vs vr vu gh gc vn vl vp ja:ah}(hK:bE k)(hQ:fK k p)(hcl:cl.length=k.decl.symbols.length):
 aX Tryz.prog (.func 39) [.agg ⟨jO k vh vs vr vc vu gh gc vn vl⟩,ja,.agg ⟨[vp]⟩] [] [] [aj ai ja cl,aj aY vp p,aj eZ vc k.decl.bV] (λy:RnY=>.tuple ⟨[.agg ⟨[y.v]⟩,y.s]⟩) (λ_=>[])
  (λy=>[aj aY y.v (gK (bT k) (fZ (bT k) cl p) p),aj ai y.s (fZ (bT k) cl p)]) (λ_=>True):=by
 have hsy:=fK.tN hQ;have hpl:=hQ.len;have hm:=hK.typ.lim.s1;generalize hmm:k.decl.symbols.length=m at *;have hc:=hcl;refine gB 39 λB w0=>?_;refine gF ai ja cl λac cc ec=>?_;subst ec;refine gF aY vp p λap1 cp ep=>?_;subst ep;refine go ?_;intro b3 b4 b5 b6;refine gP b3 ?_;refine gP b4 ?_;refine gP b5 ?_;refine go ?_;rw[hc];refine sW m ⟨s6,s6,s6⟩ λbs=>?_;rw[BB];refine go ?_;refine sW m ⟨s6,s6,s6⟩ λbu=>?_;rw[ama];refine go ?_;intro b8 b9;refine go ?_;refine gP b8 ?_;refine gP b9 ?_;refine go ?_;refine dV (λj:Nat=>m - j) (λj=>[(24,iV (j:Int))]) (λj=>[pt bs (.cells ((gM (List.replicate j (-1)) m).map iV))]) (λ_=>[]) (λj=>j<=m) 0 (bM _) (hk:=s9) (body:=?_);intro j hj;refine aO ?_ ?_<;>intro h1
 .refine go ?_;refine jN (b:=bs) (o:=0+j*1) (cs:=(gM (List.replicate j (-1)) m).map iV) (v:=iV (-1)) (cs':=(gM (List.replicate (j+1) (-1)) m).map iV) (by rw[eB,lK,<- pQ,Bz (by rw[wC]) s6,List.replicate_succ']) (by rw[aR,xC (by rw[wC];omega)];omega) ?_;refine go ?_;exact aU (j+1) (by show m - (j+1)<m - j;omega) (by show j+1<=m;omega)
 have jT:m=j:=s6
 subst jT;rw[BA wC];refine gC (abT (xs:=p) s6) λa ha=>?_;refine go ?_;intro b12;refine go ?_;have hg0:List.replicate m (-1)=iR cl (iq (bT k) (p.take 0)):=by
  rw[List.take_zero];show _=iR cl [];rw[aaF,hc]
 have hs0:nR m []=nR m (iR cl (iq (bT k) (p.take 0))):=by rw[<- hg0,aqD]
 rw[hg0,hs0];rcases ha with⟨rfl,h0⟩|⟨b,f,rfl⟩
 .have hx:p=[]:=j6.1 h0;have hst:iq (bT k) (p.take 0)=iq (bT k) p:=by rw[hx];rfl
  rw[h0,hst];refine oh ?_;refine go ?_;refine eD (aj aY (.slice none 0 0) (gK (bT k) (fZ (bT k) cl p) p)) (λw hw=>by rw[hx];exact .inl ⟨rfl,none,0,rfl,trivial⟩) ?_;refine dV (λj:Nat=>m - j) (λj=>[(75,iV (j:Int))]) (λj=>[pt bs (.cells ((iR cl (iq (bT k) p++(upTo' m).take j)).map iV)),pt bu (.cells (nR m (iR cl (iq (bT k) p++(upTo' m).take j))))]) (λ_=>[]) (λj=>j<=m) 0 (bM _) (hk:=Gk) (body:=?_);intro j hj;have Ve:iY m (iq (bT k) p++(upTo' m).take j):=λx hx=>by
   exact ov
  have hgi:=(Bj hc _ _ rfl Ve).1;refine aO ?_ ?_<;>intro h1
  .exact cQ
  have jT:m=j:=s6
  subst jT;rw[xP AF];have hfl:(iR cl (iq (bT k) p++upTo' m)).length=m:=(Bj hc _ _ rfl (λx hx=>by
   exact oT)).1.len
  have hgr:iR cl (iq (bT k) p++upTo' m)=fZ (bT k) cl p:=by unfold fZ;rw[hc]
  rw[hgr]at hfl⊢;refine mD (A:=pt bs (.cells ((fZ (bT k) cl p).map iV))) (fs:=[aj ai (xJ bs m) (fZ (bT k) cl p)]) HA (h:=?_);refine go ?_;exact gQ ⟨(.slice none 0 0),xJ bs m⟩ trivial
 refine Zz aY λaC hxy hmx hf=>?_;have hxl:aC.length=p.length:=As
 refine dV (λy:Nat×ae CV=>p.length - y.1) (λy=>[(39,iV (y.1:Int))]) (λy=>[pt b (.cells (cO aY y.2)),pt bs (.cells ((iR cl (iq (bT k) (p.take y.1))).map iV)),pt bu (.cells (nR m (iR cl (iq (bT k) (p.take y.1)))))]) (λy=>[qz aY y.2]) (λy=>y.1<=p.length/\y.2.map (·.1)=gK (bT k) (fZ (bT k) cl p) (p.take y.1)++p.drop y.1) (0,aC) ⟨bM _,by rw[hxy];rfl⟩ (hk:=s9) (body:=?_);rintro⟨i,ys⟩ ⟨hi,hys⟩;dsimp only at hi hys⊢;have hyl:ys.length=p.length:=by
  have:=congrArg List.length hys;unfold gK at this;rw[aR,eF,aR,fU,lu]at this;omega
 have hin:=Vd hsy i;have hgi:=(Bj hc _ _ rfl hin).1;refine aO ?_ ?_<;>intro h1
 rotate_left
 .have hie:i=p.length:=by omega
  subst hie;rw[fu,Fp,gW]at hys;rw[fu];have e0:cO aY ys=cO aY ys++[]:=(gW _).symm;rw[e0];refine Nj aY (aC:=ys) (b:=b) (f:=f) (c:=p.length) hf s6 ?_ (λw hw=>hw (qz aY ys) s7);rw[hyl,hys];refine go ?_;refine dV (λj:Nat=>m - j) (λj=>[(75,iV (j:Int))]) (λj=>[pt bs (.cells ((iR cl (iq (bT k) p++(upTo' m).take j)).map iV)),pt bu (.cells (nR m (iR cl (iq (bT k) p++(upTo' m).take j))))]) (λ_=>[]) (λj=>j<=m) 0 (bM _) (hk:=Gk) (body:=?_);intro j hj;have Ve:iY m (iq (bT k) p++(upTo' m).take j):=λx hx=>by
   exact ov
  have hgi:=(Bj hc _ _ rfl Ve).1;refine aO ?_ ?_<;>intro h1
  .exact cQ
  have jT:m=j:=s6
  subst jT;rw[xP AF];have hfl:(iR cl (iq (bT k) p++upTo' m)).length=m:=(Bj hc _ _ rfl (λx hx=>by
   exact oT)).1.len
  have hgr:iR cl (iq (bT k) p++upTo' m)=fZ (bT k) cl p:=by unfold fZ;rw[hc]
  rw[hgr]at hfl⊢;refine mD (A:=pt bs (.cells ((fZ (bT k) cl p).map iV))) (fs:=[aj ai (xJ bs m) (fZ (bT k) cl p)]) HA (h:=?_);refine go ?_;exact gQ ⟨(.slice (some ⟨b,0,some f⟩) p.length p.length),xJ bs m⟩ trivial
 obtain⟨g,hg⟩:∃g,p[i]? =some g:=⟨_,bG s6⟩
 have hgm:=aT hg;obtain⟨⟨g',vg⟩,hy⟩:∃y:Clue×ah,ys[i]? =some y:=⟨_,bG s6⟩
 have hgg:g'=g:=by
  have h2:(ys.map (·.1))[i]? =some g':=by rw[bU,hy];rfl
  rw[hys,jP (by unfold gK;rw[aR,fU];omega),show i - (gK (bT k) (fZ (bT k) cl p) (p.take i)).length=0 by unfold gK;rw[aR,fU];omega,jU,xL,hg]at h2;exact(Option.some.inj h2).symm
 subst hgg;obtain⟨c,L,r1,r2,r3,r4,r5,r6⟩:=hQ.right g' hgm;obtain⟨cn,hcn⟩:=gV r1;have hcc:=r2;rw[hcn,fM]at hcc;have acz:=(aV.1 hcc).1;have hsc:=UI (k:=k) (g:=g') r2;refine go ?_;refine Gt aY (o:=0+i*3) hy (by show 0+i*3=i*aY.n;rw[show aY.n=3 from rfl];omega) ?_;refine eD (aj ai vg g'.values) (λw hw=>hw (qz aY ys) s7 (g',vg) (aT hy) _ (by simp[aY])) ?_;rw[show aY.pat (g',vg).1 (g',vg).2=[iV (cn:Int),iV g'.at_,vg]by rw[<- hcn];rfl];refine go ?_;intro b14;refine gX eZ (xs:=k.decl.bV) (k:=cn) λ_ _ c2 (_:Unit) hc2=>?_;rw[hcc]at hc2;obtain rfl:c=c2:=Option.some.inj hc2;refine go ?_;have hset:(ys.set i (kQ (bT k) (fZ (bT k) cl p) g',vg)).map (·.1)=gK (bT k) (fZ (bT k) cl p) (p.take (i+1))++p.drop (i+1):=by
  rw[pQ,hys];have h3:p.drop i=g'::p.drop (i+1):=by
   have:=aV.1 hg;obtain⟨h4,h5⟩:=this;rw[nH h4,h5]
  have h4:(gK (bT k) (fZ (bT k) cl p) (p.take i)).length=i:=by unfold gK;rw[aR,fU];omega
  rw[h3,Af _ _ s6,h4,nX,VV];unfold gK;rw[fF hg,cB,l6,List.append_assoc];rfl
 refine p9 rfl ?_ ?_<;>intro t1
 rotate_left
 .have hsf:bT k g'.aS=false:=by rw[hsc];exact bY t1
  have hrc:kQ (bT k) (fZ (bT k) cl p) g'=g':=by unfold kQ;rw[hsf];rfl
  rw[hrc]at hset;have hse:ys.set i (g',vg)=ys:=by
   apply iH;intro q;rw[nY];split
   .rename_i e;subst e;rw[if_pos s6,hy]<;>rfl
   .rfl
  rw[hse]at hset;have hst:iq (bT k) (p.take (i+1))=iq (bT k) (p.take i):=by rw[adl hg,hsf];simp
  refine go ?_;refine aU (i+1,ys) GC ⟨by dsimp only;omega,hset⟩ (hk:=by dsimp only;rw[hst];repeat (first|exact aF.nil|(apply aF.cons;(focus (repeat (first|exact aB.here|apply aB.there))))))
 have Vf:bT k g'.aS=true:=by rw[hsc];exact eT t1
 obtain⟨v0,hv0,v00,v01⟩:=hsy g' hgm Vf;obtain⟨ni,rfl⟩:=gV v00;have hst:iq (bT k) (p.take (i+1))=iq (bT k) (p.take i)++[(ni:Int)]:=by rw[adl hg,Vf,if_pos rfl,hv0]
 rw[hv0];refine gX ai (xs:=[(ni:Int)]) (k:=0) (h1:=s7) λ_ _ x (_:Unit) hx=>?_;have hx0:(ni:Int)=x:=tg
 subst hx0;refine gC (Vb (b4:=b4) (b8:=b8) (b9:=b9) (bs:=bs) (bu:=bu) (m:=m) (cl:=cl) (sy:=iR cl (iq (bT k) (p.take i))) (s:=(ni:Int)) (vc:=.slice ac m cc) hc s6 hgi.len s6 s6) λ_ _=>?_;rw[<- GM,<- hst];have hgl:(iR cl (iq (bT k) (p.take (i+1)))).length=m:=(Bj hc _ _ rfl (Vd hsy (i+1))).1.len;have hz:aH (iR cl (iq (bT k) (p.take (i+1)))) (ni:Int)=aH (fZ (bT k) cl p) (ni:Int):=aqH hc hsy (i+1) (by rw[hst];simp);refine gX ai (xs:=[(ni:Int)]) (k:=0) (h1:=s7) λ_ _ x (_:Unit) hx=>?_;have hx0:(ni:Int)=x:=tg
 subst hx0;refine go ?_;refine ol (b:=bs) (o:=0+ni*1) (cs:=(iR cl (iq (bT k) (p.take (i+1)))).map iV) (iV (aH (iR cl (iq (bT k) (p.take (i+1)))) (ni:Int))) (adj rfl s6) ?_;rw[hz];refine go ?_;intro Hq;refine go ?_;refine gZ amb ?_;have hrc:kQ (bT k) (fZ (bT k) cl p) g'=⟨g'.aS,g'.at_,[aH (fZ (bT k) cl p) (ni:Int)]⟩:=by unfold kQ;rw[Vf,if_pos rfl,hv0];rfl
 refine jN (b:=b) (o:=0+i*3+2) (cs:=cO aY ys) (v:=xJ Hq 1) (cs':=cO aY (ys.set i (kQ (bT k) (fZ (bT k) cl p) g',xJ Hq 1))) (by rw[hrc];exact aqF hy) (by rw[yE,show aY.n=3 from rfl];omega) ?_;refine eD (qz aY (ys.set i (kQ (bT k) (fZ (bT k) cl p) g',xJ Hq 1))) (λw hw q hq f hf=>by
  rcases VQ hq with h|h
  .exact hw (qz aY ys) s7 q h f hf
  .subst h;rw[hrc]at hf;have:f=aj ai (xJ Hq 1) [aH (fZ (bT k) cl p) (ni:Int)]:=by simpa[aY]using hf
   rw[this];exact hw (aj ai (xJ Hq 1) [aH (fZ (bT k) cl p) (ni:Int)]) s7) ?_
 refine go ?_;refine aU (i+1,ys.set i (kQ (bT k) (fZ (bT k) cl p) g',xJ Hq 1)) GC ⟨by dsimp only;omega,by dsimp only;rw[<- hset,pQ,pQ]⟩
structure aud(k:aQ)(p:List Clue)(cl:List Int)(e:Int):Prop where
 nk:¬bE k->e=180
 np:bE k->¬fK k p->e=190
 nc:bE k->fK k p->¬zG k.decl.symbols.length cl->e=1
 ok:bE k->fK k p->zG k.decl.symbols.length cl->e=0
structure aue where
 v:Value
 s:Value
 e:Int
