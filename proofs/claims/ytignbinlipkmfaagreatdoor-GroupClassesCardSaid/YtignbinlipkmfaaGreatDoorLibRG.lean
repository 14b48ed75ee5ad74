/- Part. -/
import Derived.Test.YtignbinlipkmfaaGreatDoorLibPG
set_option linter.all false
set_option maxRecDepth 10000
set_option maxHeartbeats 4000000
namespace Go.Proofs.YtignbinlipkmfaaGreatDoor
open Go.Ideal Kd Canon
variable{fn:Fn}{cap first:ae ah}{xs:ae (ae Int)}{F1:ae aH}{p:ae Int->Bool}
def aoy{va:ah}(hl:xs.length<2^63)(hp:∀x∈xs,zm Tryz.prog fn first cap F1 p x):
 bA Tryz.prog (.func 72) [va,.func fn ⟨first⟩ ⟨cap⟩] [] [ap (az ai) va xs] F1 (λ_:Unit=>iV (oZ p xs)) (λ_=>[ap (az ai) va xs]) (λ_=>[]) (λ_=>True):=by
 refine nZ L9 Ra λB w0=>?_;refine K6 (E:=az ai) (v:=va) (xs:=xs) λaa ea hnil=>?_;subst ea;refine gN xs.length 8 (λk=>k<=xs.length/\(xs.take k).any p=false) ⟨p0,qe⟩ ?_;rintro k ⟨hk,hno⟩;refine aP ?_ ?_<;>intro h1
 .have hx:xs[k]? =some (xs[k]'(p0)):=bH _;generalize xs[k]'(p0)=x at hx;refine go ?_;refine MB k x hx λ_ _ u=>?_;refine gC (hp x (aV hx) u) λ_ _=>?_;refine go ?_;refine Aw rfl (λh2=>?_) (λh2=>?_)
  .refine bT ?_;rw[Zc hno hx h2];rfl
  .exact ii
 have hke:k=xs.length:=p0
 subst hke;rw[eH]at hno;refine bT ?_;rw[Rq hno];rfl
def Fe(ps:ae (ah×ae Int)):aH:=⟨λw=>∀p∈ps,(aA ai p.1 p.2).p w,λa h p hp=>(aA ai p.1 p.2).mono a (h p hp)⟩
variable{F:ae aH}{kl:ae OA}{v:ah}
def aoz{B:ae Nat}{w0:Wd}{kl':ae OA}{Q:IH->Prop}(h0:0<xs.length)(h:∀b f pre ps,v=.slice (some ⟨b,pre.length,some f⟩) xs.length xs.length->(f=0\/f=1)->ps.map (·.2)=xs->R Q B w0 (pt b (.cells (pre++ps.map (·.1)))::kl') (Fe ps::F))(hk:aC (ap (az ai) v xs) kl kl':=by exact dK):R Q B w0 kl F:=λw s=>by
 have s1:=s.fu hk;obtain⟨S,⟨S1,S2,q1,q2,e⟩,h2,h3⟩:=s1.own;rcases q1 with⟨h,_⟩|⟨b,o,f,cells,e1,hf,e2,hb,hcl,hel⟩
 .rw[h]at h0;simp at h0
 have hcl:cells.length=o+xs.length:=by rw[hcl];show o+xs.length*1=_;omega
 have hel:∀(k:Nat) x,xs[k]? =some x->∃y,cells[o+k]? =some y/\(aA ai y x).p w:=λk x hk=>by
  obtain⟨y,u1,u2⟩:=hel k x hk;refine⟨y,?_,u2 _ (bF.2 rfl)⟩;have:=u1 0 y rfl
  rwa [show o+k*(az ai).n+0=o+k by show o+k*1+0=o+k;omega]at this
 have hdl:(cells.drop o).length=xs.length:=ri
 have hz1:((cells.drop o).zip xs).map (·.1)=cells.drop o:=by
  rw[<- List.unzip_fst,List.unzip_zip p0]
 have hz2:((cells.drop o).zip xs).map (·.2)=xs:=by
  rw[<- List.unzip_snd,List.unzip_zip p0]
 have ho:(cells.take o).length=o:=sx
 refine h b f (cells.take o) ((cells.drop o).zip xs) (by rw[ho];exact e1) hf hz2 w ⟨s.agree,s.le,s.eT,⟨S,⟨S1,S2,⟨e2,by rw[hz1,qz];exact hb⟩,q2,e⟩,h2,h3⟩,λg hg=>?_⟩;rcases bN.1 hg with rfl|hg
 .intro p hp;obtain⟨k,hk⟩:=ik hp;have hk2:xs[k]? =some p.2:=by rw[<- hz2,bU,hk];rfl
  have hk1:(cells.drop o)[k]? =some p.1:=by conv=>lhs;rw[<- hz1]
                                            rw[bU,hk];rfl
  obtain⟨y,y1,y2⟩:=hel k p.2 hk2;rw[jR,y1]at hk1;cases hk1;exact y2
 .exact s.facts g hg
def aoA{b o f c:Nat}{cs:ae ah}{ps:ae (ah×ae Int)}{w:Wd}(h1:(dx b 0 cs).p w)(h2:(Fe ps).p w)(hc:ps.length<=c)(hf:f=0\/f=1)(hcs:∀(k:Nat) p,ps[k]? =some p->cs[o+k]? =some p.1):
 (aA (az ai) (.slice (some ⟨b,o,some f⟩) ps.length c) (ps.map (·.2))).p w:=by
 obtain⟨cells,q1,q2⟩:=h1;refine .inr ⟨b,o,f,c,cells,⟨by rw[aS],by rw[aS];exact hc,hf⟩,q1,λk x hk=>?_⟩;rw[bU]at hk;obtain⟨p,hp,e⟩:=jC.1 hk;subst e;refine⟨p.1,λj u hj=>?_,λf hf=>by rw[bF.1 hf];exact h2 p (aV hp)⟩;match j,hj with
 |0,hj=>
  have hj:some p.1=some u:=hj;have:=q2 (o+k) _ (hcs k p hp);rw[show o+k*(az ai).n+0=0+(o+k)by show o+k*1+0=_;omega,this];exact hj
 |j+1,hj=>cases hj
def aoB(p:ae Int->Bool)(xs:ae (ae Int)):(oZ p xs= -1/\xs.filter (λx=>!p x)=xs)\/∃(i:Nat) (x:ae Int),oZ p xs=(i:Int)/\xs[i]? =some x/\p x=true/\(xs.take i).any p=false:=by
 unfold oZ;cases h:xs.findIdx? p with
 |none=>
  left;refine⟨rfl,SB.2 λx hx=>?_⟩;rw[SS]at h;rw[h x hx];rfl
 |some i=>
  right;rw[acm]at h;obtain⟨h1,h2,h3⟩:=h;refine⟨i,xs[i],rfl,bH h1,h2,?_⟩;rw[IY];intro x hx;obtain⟨j,hj⟩:=ik hx;rw[qy]at hj;split at hj
  .rename_i hji;have:=h3 j hji;rw[bH p0]at hj;cases hj;simpa using this
  .cases hj
def aoC(hl:xs.length<4611686018427387904)(hp:∀x∈xs,zm Tryz.prog fn first cap F1 p x):
 bA Tryz.prog (.func 37) [v,.func fn ⟨first⟩ ⟨cap⟩] [] [ap (az ai) v xs] F1 (λw:ah=>w) (λ_=>[]) (λw=>[aA (az ai) w (xs.filter λx=>!p x)]) (λ_=>True):=by
 refine gB 37 λB w0=>?_;refine gC (aoy (va:=v) (xs:=xs) p0 hp) λ_ _=>?_;refine go ?_;rcases aoB p xs with⟨e1,e2⟩|⟨i0,x0,e1,hx0,aao,hno⟩
 .rw[e1];refine gZ (jk (E:=az ai) (v:=v) (xs:=xs)) ?_;refine go ?_;exact gQ v trivial (hF:=by rw[e2];exact .cons qe .nil)
 rw[e1];have hi0:=(aT.1 hx0).1;refine uH rfl ?_ ?_<;>intro h1
 .exfalso;omega
 refine aoz (v:=v) (xs:=xs) p0 λb f pre ps ev hf hps=>?_;subst ev;have hpl:ps.length=xs.length:=by rw[<- hps,aS]
 let zs:Nat->ae (ah×ae Int):=λj=>(ps.take j).filter λq=>!p q.2
 have hzl:∀j,(zs j).length<=j:=λj=>mh (FB ..) sx;have hp0:∃v0,ps[i0]? =some (v0,x0):=by
  have:(ps.map (·.2))[i0]? =some x0:=by rw[hps];exact hx0
  rw[bU]at this;obtain⟨q,hq,e⟩:=jC.1 this;exact⟨q.1,by rw[hq,<- e]⟩
 obtain⟨v0,hp0⟩:=hp0;have hz0:zs (i0+1)=ps.take i0:=by
  show(ps.take (i0+1)).filter _=_;rw[gz hp0,Dp];have e1:(ps.take i0).filter (λq=>!p q.2)=ps.take i0:=SB.2 λq hq=>by
   have:q.2∈xs.take i0:=by rw[<- hps,<- List.map_take];exact IU hq
   have:=IY.1 hno q.2 this;simpa using this
  have e2:([(v0,x0)]:ae (ah×ae Int)).filter (λq=>!p q.2)=[]:=by
   rw[Bz];simp[aao]
  rw[e1,e2,iH]
 have aap:(zs (i0+1)).length=i0:=by rw[hz0,gq];omega
 have hcells:ps.map (·.1)=(zs (i0+1)).map (·.1)++(ps.drop (zs (i0+1)).length).map (·.1):=by
  rw[aap,hz0,<- dQ,qz]
 refine go ?_;rw[hcells];refine dS (λj:Nat=>xs.length - j) (λj=>[(6,iV (j:Int)),(5,iV ((zs j).length:Int))]) (λj=>[pt b (.cells (pre++((zs j).map (·.1)++(ps.drop (zs j).length).map (·.1))))]) (λ_=>[]) (λj=>i0+1<=j/\j<=xs.length) (i0+1) ⟨bz _,p0⟩ (hl:=?_) (hk:=qn) (body:=?_)
 .refine⟨rfl,?_,?_⟩
  .show Value.int .i64 (i0:Int)=iV ((zs (i0+1)).length:Int);rw[aap]
  .repeat (first|exact trivial|refine⟨rfl,?_⟩)
 rintro j ⟨hj1,hj2⟩;have hW:=hzl j;refine aP ?_ ?_<;>intro h2
 .have hq:ps[j]? =some (ps[j]'(p0)):=bH _;generalize hqe:ps[j]'(p0)=q at hq;obtain⟨vq,x⟩:=q;have Gm:xs[j]? =some x:=by rw[<- hps,bU,hq];rfl
  have hget:(pre++((zs j).map (·.1)++(ps.drop (zs j).length).map (·.1)))[pre.length+j*1]? =some vq:=by
   rw[jm p0,jm tb,aS,bU,jR,show(zs j).length+(pre.length+j*1 - pre.length - (zs j).length)=j by omega,hq];rfl
  refine go ?_;refine iN (aA ai vq x) (λw hw=>hw (Fe ps) qe (vq,x) (aV hq)) ?_;refine gF ai vq x λaq cq eq=>?_;subst eq;refine oN (b:=b) (o:=pre.length+j*1) (cs:=pre++((zs j).map (·.1)++(ps.drop (zs j).length).map (·.1))) (.slice aq x.length cq) hget ?_;refine gC (hp x (aV Gm) (.slice aq x.length cq)) λ_ _=>?_;refine go ?_;have hzs:zs (j+1)=zs j++(if p x=true then[]else[(.slice aq x.length cq,x)]):=by
   show(ps.take (j+1)).filter _=_;rw[gz hq,Dp];congr 1;rw[Bz];cases p x<;>rfl
  cases hpx:p x with
  |true=>
   rw[hpx,if_pos rfl,iH]at hzs;refine go ?_;rw[<- hzs];exact aY (j+1) p0 ⟨p0,p0⟩
  |false=>
   rw[hpx,if_neg qe]at hzs;refine go ?_;have hdrop:(ps.drop (zs j).length)=(ps[(zs j).length]'(p0))::ps.drop ((zs j).length+1):=pg p0;have hset:(pre++((zs j).map (·.1)++(ps.drop (zs j).length).map (·.1))).set (pre.length+(zs j).length*1) (.slice aq x.length cq)=pre++((zs (j+1)).map (·.1)++(ps.drop (zs (j+1)).length).map (·.1)):=by
    rw[zQ _ _ p0,zQ _ _ tb,aS,show pre.length+(zs j).length*1 - pre.length - (zs j).length=0 by omega,hdrop,fK,List.set_cons_zero,hzs,dQ,dL];simp
   refine jG (b:=b) (o:=pre.length+(zs j).length*1) (cs:=pre++((zs j).map (·.1)++(ps.drop (zs j).length).map (·.1))) (v:=.slice aq x.length cq) (cs':=pre++((zs (j+1)).map (·.1)++(ps.drop (zs (j+1)).length).map (·.1))) hset qu ?_;have aoD:(zs (j+1)).length=(zs j).length+1:=by rw[hzs,dL];rfl
   refine go ?_;rw[show((zs j).length:Int)+1=((zs (j+1)).length:Int)by rw[aoD];rfl];exact aY (j+1) p0 ⟨p0,p0⟩
 obtain rfl:j=xs.length:=p0
 have hzn:(zs xs.length).length<xs.length:=by
  show((ps.take xs.length).filter _).length<_;rw[zV p0,<- hpl];exact List.length_filter_lt_length_iff_exists.2 ⟨(v0,x0),aV hp0,by simp[aao]⟩
 have hys:(zs xs.length).map (·.2)=xs.filter λx=>!p x:=by
  show((ps.take xs.length).filter _).map _=_;rw[zV p0,<- hps,List.filter_map];rfl
 generalize hze:zs xs.length=Z at *;refine go ?_;refine(bV rfl rfl (PS (b:=b) (o:=pre.length) (f:=f) (m:=xs.length) (c:=xs.length) (lo:=Z.length) (hi:=xs.length) rfl hf Nat.one_pos (.inr ⟨_,rfl,rfl⟩) (.inl ⟨rfl,rfl⟩) p0 (bz _))).h ?_;refine go ?_;have hzr:zeros [Value.slice none 0 0] (xs.length - Z.length)=List.replicate (xs.length - Z.length) (.slice none 0 0):=by
  induction xs.length - Z.length with
  |zero=>rfl
  |succ n ih=>rw[wV,<- ih];rfl
 have hov:iZ (pre++(Z.map (·.1)++(ps.drop Z.length).map (·.1))) (pre.length+Z.length*1) (zeros [Value.slice none 0 0] (xs.length - Z.length))=some (pre++Z.map (·.1)++List.replicate (xs.length - Z.length) (.slice none 0 0)):=by
  have e1:(pre++Z.map (·.1)).length=pre.length+Z.length*1:=by rw[dL,aS];omega
  rw[<- fq,<- e1,hzr,PE (by rw[zS,aS,lm];omega),List.drop_of_length_le (by rw[zS,aS,lm];omega),iH]
 refine aiq hov p0 ?_;refine go ?_;refine(bV rfl rfl (PS (b:=b) (o:=pre.length) (f:=f) (m:=xs.length) (c:=xs.length) (lo:=0) (hi:=Z.length) rfl hf Nat.one_pos (.inl ⟨rfl,rfl⟩) (.inr ⟨_,rfl,rfl⟩) (bS _) p0)).h ?_;rw[Fw,wS,yg,yg];refine gP b ?_;refine iN (Fe Z) (λw hw q hq=>hw (Fe ps) qe q (by
  have:q∈(ps.take xs.length).filter λq=>!p q.2:=by rw[<- hze]at hq;exact hq
  exact Bt (ry.1 this).1)) ?_
 refine iN (aA (az ai) (.slice (some ⟨b,pre.length,some f⟩) Z.length xs.length) (Z.map (·.2))) (λw hw=>aoA (hw (dx b 0 (pre++Z.map (·.1)++List.replicate (xs.length - Z.length) (.slice none 0 0))) qe) (hw (Fe Z) qe) p0 hf (λk q hk=>by
  have hkl:=(aT.1 hk).1;rw[fq,jm p0,IR,iY (by rw[aS];exact hkl),bU,hk];rfl)) ?_
 rw[hys];refine go ?_;exact gQ (.slice (some ⟨b,pre.length,some f⟩) Z.length xs.length) trivial
noncomputable def Ff(k:aZ):ae (ae Int):=open Classical in (qp k).filter λx=>decide (gY k x (upTo' k.decl.symbols.length))
structure aoF(k:aZ)(G:List (List Int))(cl:List Int)(e:Int):Prop where
 nk:¬bW k->e=180
 err:bW k->e=0\/e=2
 nil:e≠0->G=[]/\cl=[]
 grk:e=0->EY k G cl
 aoG:e=0->∃l,oh k.grid.cells.length (Ff k) l l.length/\G.Perm l/\l.length<=4096
 ord:e=0->G.Pairwise λx y=>¬fQ fZ y x<0
structure aoH where
 v1:Value
 v2:Value
 G:List (List Int)
 cl:List Int
 e:Int
def aoI{P:Program}{args:ae ah}{K:Prop}[Decidable K](h:bA P fn args cap kl F (λb:Bool=>.bool (!b)) (λ_=>[]) (λ_=>[]) (λb=>b=true↔K)):bA P fn args cap kl F (λ_:Unit=>.bool (!decide K)) (λ_=>[]) (λ_=>[]) (λ_=>True):=λB w s=>
 .ji _ (h B w s) (by
  rintro r pm h' ⟨h1,w',b,h2,h3,h4,h5⟩;have e:b=decide K:=by
   cases b with
   |true=>exact(fo (h5.1 rfl)).symm
   |false=>exact(di λk=>by have:=h5.2 k;cases this).symm
  subst e;exact⟨h1,w',(),h2,h3,h4,trivial⟩)
variable{k:aZ}
def aoJ{q:ae Int}:∀i,q∈(jQ k i).2->q.length=k.grid.cells.length:=by
 intro i;unfold jQ;have key:∀(l:ae (ae (ae Int)×Nat)) (z:qo),(∀q∈z.2,q.length=k.grid.cells.length)->∀q∈(l.foldl (λz q=>if Br q.2=true then lT z (lS k.grid.cells.length q.1)else z) z).2,q.length=k.grid.cells.length:=by
  intro l;induction l with
  |nil=>intro z h;exact h
  |cons a l ih=>
   intro z h;rw[p9];refine ih _ λq hq=>?_;split at hq
   .rcases R3 _ _ hq with hq|hq
    .exact h q hq
    .exact MG hq
   .exact h q hq
 refine key _ _ (λq hq=>?_) q;rcases R3 _ _ hq with hq|hq
 .cases hq
 .exact Z6 hq
def aoK:∀q∈qp k,q.length=k.grid.cells.length:=λq hq=>aoJ _ hq
def aoL(hK:bW k):(qp k).length<=1000000000:=by
 have hLL:k.lists.length<=12:=by
  exact nw
 have hrg:∀r∈k.decl.regions,wD (bI k.decl) r.lists:=λr hr=>(hK.typ.CR r hr).1.2;have hlf:∀L∈k.lists,L.length<=2048:=λL hL=>Qm hK.bK hrg L (by rw[<- hK.lists];exact hL);have key:∀(l:ae (ae (ae Int)×Nat)) (z:qo),(∀a∈l,a.1.length<=2048)->(l.foldl (λz q=>if Br q.2=true then lT z (lS k.grid.cells.length q.1)else z) z).2.length<=z.2.length+l.length*4194304:=by
  intro l;induction l with
  |nil=>intro z _;exact IL _ _
  |cons a l ih=>
   intro z h;rw[p9];have h1:=h a (dP ..);have h2:=aae (n:=k.grid.cells.length) (lists:=a.1);have h3:a.1.length*a.1.length<=2048*2048:=Nat.mul_le_mul h1 h1;have h4:=Bq (lS k.grid.cells.length a.1) z;refine mh (ih _ λb hb=>h b (dO _ hb)) ?_;rw[lU];split<;>omega
 unfold qp jQ;refine mh (key _ _ λa ha=>?_) ?_
 .have:=Bt ha;rw[ym]at this;obtain⟨i,hi⟩:=this;rw[SH]at hi;obtain⟨L,hL,e⟩:=jC.1 hi;rw[<- e];exact hlf L (aV hL)
 .have h1:=Bq (nA k.grid) ([],[]);have h2:=Z7 k.grid;simp only[wU]at h1;rw[gq,List.length_zipIdx];omega
def aar{vh vs vr vc vu gh gc vn vl:ah}(hS:tX k):
 bA Tryz.prog (.func 13) [.agg ⟨oW k vh vs vr vc vu gh gc vn vl⟩] [] [] (jO k vh vs vr vc vu gh gc vn vl []) (λy:aoH=>.tuple ⟨[.agg ⟨[y.v1,y.v2]⟩,iV y.e]⟩) (λ_=>[]) (λy=>[aA (az ai) y.v1 y.G,aA ai y.v2 y.cl]) (λy=>aoF k y.G y.cl y.e):=by
 refine gB 13 λB w0=>?_;dsimp only[jO];refine gF ai gc k.grid.cells λag cg eg=>?_;subst eg;refine gF jH vs k.decl.symbols λwK cs1 es1=>?_;subst es1;by_cases hK:bW k
 rotate_left
 .refine go ?_;intro b1 b2;refine gC (aof (k:=k) hS hK) λ_ _=>?_;refine go ?_;refine iN (aA (az ai) (.slice none 0 0) ([]:ae (ae Int))) (λw _=>.inl ⟨rfl,none,0,rfl,trivial⟩) ?_;refine iN (aA ai (.slice none 0 0) ([]:ae Int)) (λw _=>.inl ⟨rfl,none,0,rfl,trivial⟩) ?_;exact gQ ⟨.slice none 0 0,.slice none 0 0,[],[],180⟩ ⟨λ_=>rfl,λh=>absurd h hK,λ_=>⟨rfl,rfl⟩,(λh=>by cases h),(λh=>by cases h),(λh=>by cases h)⟩
 refine go ?_;intro b1 b2;refine gC (aoe (k:=k) hS hK) λc0 _=>?_;generalize gv (az ai).n c0 (qp k).length=aoM;refine go ?_;intro b6;refine go ?_;refine gP b1 ?_;refine gP b6 ?_;have hg:fT k.grid:=by rw[hK.grid];exact hK.bK
 have hcl:=hg.len;have hm:=hK.typ.lim.s1;have hcan:∀p∈qp k,p.length=k.grid.cells.length:=aoK;have hcf:=aoL hK
 classical
 refine jY (aoC (fn:=.func 38) (first:=[]) (cap:=[ptr' b1,ptr' b6]) (F1:=dx b1 0 (oW k vh (.slice wK k.decl.symbols.length cs1) vr vc vu gh (.slice ag k.grid.cells.length cg) vn vl)::dx b6 0 [iV (k.decl.symbols.length:Int)]::jO k vh (.slice wK k.decl.symbols.length cs1) vr vc vu gh (.slice ag k.grid.cells.length cg) vn vl []) (p:=λx=>!decide (gY k x (upTo' k.decl.symbols.length))) (v:=aoM) (xs:=qp k) p0 (λx hx=>λv=>(aoI (aoh (b1:=b1) (b2:=b6) (k:=k) hK x (by have:=hcan x hx;omega) v)))) (next:=λvd _=>?_) (hF:=by dsimp only[jO];repeat (first|exact Sub.nil|(apply Sub.cons;(focus ((repeat (first|with_reducible exact dP .. |with_reducible apply dO));first|done|fail)))));have hgf:(qp k).filter (λx=>!!decide (gY k x (upTo' k.decl.symbols.length)))=Ff k:=by
  unfold Ff;simp only[Bool.not_not]
 rw[hgf];have hgl:(Ff k).length<=(qp k).length:=FB ..;have hgm:∀x∈Ff k,gY k x (upTo' k.decl.symbols.length):=λx hx=>jT (ry.1 hx).2;refine gC (aox (n:=k.grid.cells.length) (v:=vd) (fB:=Ff k) hcl p0 (λx hx=>by have:=(hgm x hx).pc.len;omega)) λy hy=>?_;obtain⟨vG,G,e⟩:=y;dsimp only at hy⊢;refine gZ (jk (E:=az ai) (v:=vG) (xs:=G)) ?_;refine gF (az ai) vG G λaG cG eG=>?_;subst eG;refine aP ?_ ?_<;>intro h1
 .have he2:e=2:=(hy.err h1).2 λg hg=>(hgm g hg).pc;refine go ?_;refine iN (aA (az ai) (.slice none 0 0) ([]:ae (ae Int))) (λw _=>.inl ⟨rfl,none,0,rfl,trivial⟩) ?_;refine iN (aA ai (.slice none 0 0) ([]:ae Int)) (λw _=>.inl ⟨rfl,none,0,rfl,trivial⟩) ?_;exact gQ ⟨.slice none 0 0,.slice none 0 0,[],[],e⟩ ⟨λh=>absurd hK h,λ_=>.inr he2,λ_=>⟨rfl,rfl⟩,λh=>absurd h h1,λh=>absurd h h1,λh=>absurd h h1⟩
 have hz:e=0:=lV.1 h1;subst hz;obtain⟨l,hC,hperm,hlm,CU⟩:=hy.ok rfl;refine go ?_;refine mF ai ?_;refine dS (λy:Nat×ah×ae Int=>k.decl.symbols.length - y.1) (λy=>[(44,iV (y.1:Int))]) (λy=>[pt b2 (.cells [.slice aG G.length cG,y.2.1]),ap ai y.2.1 y.2.2]) (λ_=>[]) (λy=>y.1<=k.decl.symbols.length/\y.2.2.length=y.1/\∀u:Nat,u<y.1->∃i:Nat,y.2.2[u]? =some (i:Int)/\EZ k u i) (0,.slice none 0 0,[]) ⟨bS _,rfl,λu hu=>absurd hu (zK _)⟩ (hk:=qn) (body:=?_);rintro⟨j,zF,cl⟩ ⟨hj,Bi,hcls⟩;dsimp only at hj Bi hcls⊢;refine aP ?_ ?_<;>intro h2
 rotate_left
 .obtain rfl:j=k.decl.symbols.length:=by omega
  refine gZ (jk (E:=ai) (v:=zF) (xs:=cl)) ?_;refine go ?_;exact gQ ⟨.slice aG G.length cG,zF,G,cl,0⟩ ⟨λh=>absurd hK h,λ_=>.inl rfl,λh=>absurd rfl h,λ_=>amL hK hgm hC hperm Bi hcls,λ_=>⟨l,hC,hperm,hlm⟩,λ_=>CU⟩
 refine gN j 9 (λi=>i<=j/\∀u:Nat,u<i->¬ni k (u:Int) (j:Int)) ⟨bS _,λu hu=>absurd hu (zK _)⟩ ?_;rintro i ⟨hi,hno⟩;refine aP ?_ ?_<;>intro h3
 rotate_left
 .have hij:j=i:=by omega
  subst hij;have hL:EZ k j j:=⟨bz _,ni.refl _ _,hno⟩
  refine go ?_;intro Y2;refine l7 ai (v:=zF) (xs:=cl) (j:Int) () p0 (next:=λv2=>?_);refine go ?_;refine aY (j+1,.slice v2 (cl.length+1) (cl.length+1),cl++[(j:Int)]) AS ⟨by show j+1<=_;omega,by show(cl++[(j:Int)]).length=j+1;rw[dL,Bi];rfl,λu hu=>?_⟩;show∃w:Nat,(cl++[(j:Int)])[u]? =some (w:Int)/\EZ k u w;by_cases hu2:u<j
  .exact mj
  .have hu3:u=j:=by have:u<j+1:=hu;omega
   rw[hu3];exact⟨j,by rw[jm p0,Bi,mM];rfl,hL⟩
 refine gC (R4 (n:=k.decl.symbols.length) p0) λbp _=>?_;refine go ?_;have qi:=jL k.decl.symbols.length;refine jG (b:=bp) (o:=0+i*1) (cs:=(upTo' k.decl.symbols.length).map iV) (v:=iV (j:Int)) (cs':=((upTo' k.decl.symbols.length).set i (j:Int)).map iV) (by rw[show 0+i*1=i by omega,ul]) (by rw[aS,qi];omega) ?_;refine go ?_;refine jG (b:=bp) (o:=0+j*1) (cs:=((upTo' k.decl.symbols.length).set i (j:Int)).map iV) (v:=iV (i:Int)) (cs':=(mg k.decl.symbols.length i j).map iV) (by rw[show 0+j*1=j by omega,<- ul];rfl) (by rw[aS,jD,qi];omega) ?_;have hxl:(mg k.decl.symbols.length i j).length=k.decl.symbols.length:=by unfold mg;rw[jD,jD,qi]
 refine gZ (Av (b:=bp) (f:=0) (c:=k.decl.symbols.length) (xs:=mg k.decl.symbols.length i j) (hc:=p0)) ?_;rw[hxl];refine gC (R4 (n:=k.grid.cells.length) p0) λbq _=>?_;refine gZ (R5 (bm:=bq) (n:=k.grid.cells.length)) ?_;refine gC (RP (k:=k) (s:=upTo' k.grid.cells.length) (t:=mg k.decl.symbols.length i j) (sc:=.slice (some ⟨bq,0,some 0⟩) k.grid.cells.length k.grid.cells.length) (st:=.slice (some ⟨bp,0,some 0⟩) k.decl.symbols.length k.decl.symbols.length) hK sA p0) λb hb=>?_;have hkx:=Zr hK (i:=i) (j:=j) p0 p0;refine go ?_;cases b with
 |true=>
  have hL:EZ k j i:=⟨hi,hkx.1 (hb.1 rfl),hno⟩
  refine go ?_;intro Y2;refine l7 ai (v:=zF) (xs:=cl) (i:Int) () p0 (next:=λv2=>?_);refine go ?_;refine aY (j+1,.slice v2 (cl.length+1) (cl.length+1),cl++[(i:Int)]) AS ⟨by show j+1<=_;omega,by show(cl++[(i:Int)]).length=j+1;rw[dL,Bi];rfl,λu hu=>?_⟩;show∃w:Nat,(cl++[(i:Int)])[u]? =some (w:Int)/\EZ k u w;by_cases hu2:u<j
  .exact mj
  .have hu3:u=j:=by have:u<j+1:=hu;omega
   rw[hu3];exact⟨i,by rw[jm p0,Bi,mM];rfl,hL⟩
 |false=>
  have hn2:¬ni k (i:Int) (j:Int):=λh=>by have:=hb.2 (hkx.2 h);cases this
  refine go ?_;exact aY (i+1) p0 ⟨p0,λu hu=>by
   by_cases e:u=i
   .rw[e];exact hn2
   .exact hno u p0⟩
