/- Part. -/
import Derived.Test.YtoilpafpgndilaaGreatLibPJ
set_option linter.all false
set_option maxRecDepth 10000
set_option maxHeartbeats 4000000
namespace Go.Proofs.YtoilpafpgndilaaGreat
open Go.Ideal Kd Canon
variable{fn:Fn}{cap first:ae ah}{xs:ae (ae Int)}{F1:ae aI}{p:ae Int->Bool}
def aqk{va:ah}(hl:xs.length<2^63)(hp:∀x∈xs,zM Tryz.prog fn first cap F1 p x):
 aX Tryz.prog (.func 96) [va,.func fn ⟨first⟩ ⟨cap⟩] [] [ap (az ai) va xs] F1 (λ_:Unit=>iV (qh p xs)) (λ_=>[ap (az ai) va xs]) (λ_=>[]) (λ_=>True):=by
 refine mq Oh T9 λB w0=>?_;refine Nk (E:=az ai) (v:=va) (xs:=xs) λaa ea hnil=>?_;subst ea;refine gN xs.length 8 (λk=>k<=xs.length/\(xs.take k).any p=false) ⟨s6,s7⟩ ?_;rintro k ⟨hk,hno⟩;refine aO ?_ ?_<;>intro h1
 .have hx:xs[k]? =some (xs[k]'(s6)):=bG _;generalize xs[k]'(s6)=x at hx;refine go ?_;refine OQ k x hx λ_ _ u=>?_;refine gC (hp x (aT hx) u) λ_ _=>?_;refine go ?_;refine Cw rfl (λh2=>?_) (λh2=>?_)
  .refine bF ?_;rw[abX hno hx h2];rfl
  .exact li
 have hke:k=xs.length:=s6
 subst hke;rw[fu]at hno;refine bF ?_;rw[Ut hno];rfl
def Hl(ps:ae (ah×ae Int)):aI:=⟨λw=>∀p∈ps,(aj ai p.1 p.2).p w,λa h p hp=>(aj ai p.1 p.2).mono a (h p hp)⟩
variable{F:ae aI}{kl:ae OA}{v:ah}
def aql{B:ae Nat}{w0:Wd}{kl':ae OA}{Q:IH->Prop}(h0:0<xs.length)(h:∀b f pre ps,v=.slice (some ⟨b,pre.length,some f⟩) xs.length xs.length->(f=0\/f=1)->ps.map (·.2)=xs->R Q B w0 (pt b (.cells (pre++ps.map (·.1)))::kl') (Hl ps::F))(hk:aB (ap (az ai) v xs) kl kl':=by exact dU):R Q B w0 kl F:=λw s=>by
 have s1:=s.fI hk;obtain⟨S,⟨S1,S2,q1,q2,e⟩,h2,h3⟩:=s1.own;rcases q1 with⟨h,_⟩|⟨b,o,f,cells,e1,hf,e2,hb,hcl,hel⟩
 .rw[h]at h0;simp at h0
 have hcl:cells.length=o+xs.length:=by rw[hcl];show o+xs.length*1=_;omega
 have hel:∀(k:Nat) x,xs[k]? =some x->∃y,cells[o+k]? =some y/\(aj ai y x).p w:=λk x hk=>by
  obtain⟨y,u1,u2⟩:=hel k x hk;refine⟨y,?_,u2 _ (bA.2 rfl)⟩;have:=u1 0 y rfl
  rwa [show o+k*(az ai).n+0=o+k by show o+k*1+0=o+k;omega]at this
 have hdl:(cells.drop o).length=xs.length:=tj
 have hz1:((cells.drop o).zip xs).map (·.1)=cells.drop o:=by
  rw[<- List.unzip_fst,List.unzip_zip s6]
 have hz2:((cells.drop o).zip xs).map (·.2)=xs:=by
  rw[<- List.unzip_snd,List.unzip_zip s6]
 have ho:(cells.take o).length=o:=tw
 refine h b f (cells.take o) ((cells.drop o).zip xs) (by rw[ho];exact e1) hf hz2 w ⟨s.agree,s.le,s.fH,⟨S,⟨S1,S2,⟨e2,by rw[hz1,nE];exact hb⟩,q2,e⟩,h2,h3⟩,λg hg=>?_⟩;rcases bH.1 hg with rfl|hg
 .intro p hp;obtain⟨k,hk⟩:=iM hp;have hk2:xs[k]? =some p.2:=by rw[<- hz2,bU,hk];rfl
  have hk1:(cells.drop o)[k]? =some p.1:=by conv=>lhs;rw[<- hz1]
                                            rw[bU,hk];rfl
  obtain⟨y,y1,y2⟩:=hel k p.2 hk2;rw[jU,y1]at hk1;cases hk1;exact y2
 .exact s.facts g hg
def aqm{b o f c:Nat}{cs:ae ah}{ps:ae (ah×ae Int)}{w:Wd}(h1:(bW b 0 cs).p w)(h2:(Hl ps).p w)(hc:ps.length<=c)(hf:f=0\/f=1)(hcs:∀(k:Nat) p,ps[k]? =some p->cs[o+k]? =some p.1):
 (aj (az ai) (.slice (some ⟨b,o,some f⟩) ps.length c) (ps.map (·.2))).p w:=by
 obtain⟨cells,q1,q2⟩:=h1;refine .inr ⟨b,o,f,c,cells,⟨by rw[aR],by rw[aR];exact hc,hf⟩,q1,λk x hk=>?_⟩;rw[bU]at hk;obtain⟨p,hp,e⟩:=kg.1 hk;subst e;refine⟨p.1,λj u hj=>?_,λf hf=>by rw[bA.1 hf];exact h2 p (aT hp)⟩;match j,hj with
 |0,hj=>
  have hj:some p.1=some u:=hj;have:=q2 (o+k) _ (hcs k p hp);rw[show o+k*(az ai).n+0=0+(o+k)by show o+k*1+0=_;omega,this];exact hj
 |j+1,hj=>cases hj
def aqn(p:ae Int->Bool)(xs:ae (ae Int)):(qh p xs= -1/\xs.filter (λx=>!p x)=xs)\/∃(i:Nat) (x:ae Int),qh p xs=(i:Int)/\xs[i]? =some x/\p x=true/\(xs.take i).any p=false:=by
 unfold qh;cases h:xs.findIdx? p with
 |none=>
  left;refine⟨rfl,VN.2 λx hx=>?_⟩;rw[VZ]at h;rw[h x hx];rfl
 |some i=>
  right;rw[adQ]at h;obtain⟨h1,h2,h3⟩:=h;refine⟨i,xs[i],rfl,bG h1,h2,?_⟩;rw[KW];intro x hx;obtain⟨j,hj⟩:=iM hx;rw[rE]at hj;split at hj
  .rename_i hji;have:=h3 j hji;rw[bG s6]at hj;cases hj;simpa using this
  .cases hj
def aqo(hl:xs.length<4611686018427387904)(hp:∀x∈xs,zM Tryz.prog fn first cap F1 p x):
 aX Tryz.prog (.func 87) [v,.func fn ⟨first⟩ ⟨cap⟩] [] [ap (az ai) v xs] F1 (λw:ah=>w) (λ_=>[]) (λw=>[aj (az ai) w (xs.filter λx=>!p x)]) (λ_=>True):=by
 refine gB 87 λB w0=>?_;refine gC (aqk (va:=v) (xs:=xs) s6 hp) λ_ _=>?_;refine go ?_;rcases aqn p xs with⟨e1,e2⟩|⟨i0,x0,e1,hx0,adg,hno⟩
 .rw[e1];refine gZ (jr (E:=az ai) (v:=v) (xs:=xs)) ?_;refine go ?_;exact gQ v trivial (hF:=by rw[e2];exact .cons s7 .nil)
 rw[e1];have hi0:=(aV.1 hx0).1;refine p9 rfl ?_ ?_<;>intro h1
 .exfalso;omega
 refine aql (v:=v) (xs:=xs) s6 λb f pre ps ev hf hps=>?_;subst ev;have hpl:ps.length=xs.length:=by rw[<- hps,aR]
 let zs:Nat->ae (ah×ae Int):=λj=>(ps.take j).filter λq=>!p q.2
 have hzl:∀j,(zs j).length<=j:=λj=>oH (HZ ..) tw;have hp0:∃v0,ps[i0]? =some (v0,x0):=by
  have:(ps.map (·.2))[i0]? =some x0:=by rw[hps];exact hx0
  rw[bU]at this;obtain⟨q,hq,e⟩:=kg.1 this;exact⟨q.1,by rw[hq,<- e]⟩
 obtain⟨v0,hp0⟩:=hp0;have hz0:zs (i0+1)=ps.take i0:=by
  show(ps.take (i0+1)).filter _=_;rw[fF hp0,Fh];have e1:(ps.take i0).filter (λq=>!p q.2)=ps.take i0:=VN.2 λq hq=>by
   have:q.2∈xs.take i0:=by rw[<- hps,<- List.map_take];exact Fg hq
   have:=KW.1 hno q.2 this;simpa using this
  have e2:([(v0,x0)]:ae (ah×ae Int)).filter (λq=>!p q.2)=[]:=by
   rw[Dz];simp[adg]
  rw[e1,e2,gW]
 have adh:(zs (i0+1)).length=i0:=by rw[hz0,fU];omega
 have hcells:ps.map (·.1)=(zs (i0+1)).map (·.1)++(ps.drop (zs (i0+1)).length).map (·.1):=by
  rw[adh,hz0,<- cB,nE]
 refine go ?_;rw[hcells];refine dV (λj:Nat=>xs.length - j) (λj=>[(6,iV (j:Int)),(5,iV ((zs j).length:Int))]) (λj=>[pt b (.cells (pre++((zs j).map (·.1)++(ps.drop (zs j).length).map (·.1))))]) (λ_=>[]) (λj=>i0+1<=j/\j<=xs.length) (i0+1) ⟨aZ _,s6⟩ (hl:=?_) (hk:=s9) (body:=?_)
 .refine⟨rfl,?_,?_⟩
  .show Value.int .i64 (i0:Int)=iV ((zs (i0+1)).length:Int);rw[adh]
  .repeat (first|exact trivial|refine⟨rfl,?_⟩)
 rintro j ⟨hj1,hj2⟩;have hW:=hzl j;refine aO ?_ ?_<;>intro h2
 .have hq:ps[j]? =some (ps[j]'(s6)):=bG _;generalize hqe:ps[j]'(s6)=q at hq;obtain⟨vq,x⟩:=q;have QB:xs[j]? =some x:=by rw[<- hps,bU,hq];rfl
  have hget:(pre++((zs j).map (·.1)++(ps.drop (zs j).length).map (·.1)))[pre.length+j*1]? =some vq:=by
   rw[jP s6,jP tU,aR,bU,jU,show(zs j).length+(pre.length+j*1 - pre.length - (zs j).length)=j by omega,hq];rfl
  refine go ?_;refine eD (aj ai vq x) (λw hw=>hw (Hl ps) s7 (vq,x) (aT hq)) ?_;refine gF ai vq x λaq cq eq=>?_;subst eq;refine ol (b:=b) (o:=pre.length+j*1) (cs:=pre++((zs j).map (·.1)++(ps.drop (zs j).length).map (·.1))) (.slice aq x.length cq) hget ?_;refine gC (hp x (aT QB) (.slice aq x.length cq)) λ_ _=>?_;refine go ?_;have hzs:zs (j+1)=zs j++(if p x=true then[]else[(.slice aq x.length cq,x)]):=by
   show(ps.take (j+1)).filter _=_;rw[fF hq,Fh];congr 1;rw[Dz];cases p x<;>rfl
  cases hpx:p x with
  |true=>
   rw[hpx,if_pos rfl,gW]at hzs;refine go ?_;rw[<- hzs];exact aU (j+1) s6 ⟨s6,s6⟩
  |false=>
   rw[hpx,if_neg s7]at hzs;refine go ?_;have hdrop:(ps.drop (zs j).length)=(ps[(zs j).length]'(s6))::ps.drop ((zs j).length+1):=nH s6;have hset:(pre++((zs j).map (·.1)++(ps.drop (zs j).length).map (·.1))).set (pre.length+(zs j).length*1) (.slice aq x.length cq)=pre++((zs (j+1)).map (·.1)++(ps.drop (zs (j+1)).length).map (·.1)):=by
    rw[Af _ _ s6,Af _ _ tU,aR,show pre.length+(zs j).length*1 - pre.length - (zs j).length=0 by omega,hdrop,fA,VV,hzs,cB,eF];simp
   refine jN (b:=b) (o:=pre.length+(zs j).length*1) (cs:=pre++((zs j).map (·.1)++(ps.drop (zs j).length).map (·.1))) (v:=.slice aq x.length cq) (cs':=pre++((zs (j+1)).map (·.1)++(ps.drop (zs (j+1)).length).map (·.1))) hset tc ?_;have aqp:(zs (j+1)).length=(zs j).length+1:=by rw[hzs,eF];rfl
   refine go ?_;rw[show((zs j).length:Int)+1=((zs (j+1)).length:Int)by rw[aqp];rfl];exact aU (j+1) s6 ⟨s6,s6⟩
 obtain rfl:j=xs.length:=s6
 have hzn:(zs xs.length).length<xs.length:=by
  show((ps.take xs.length).filter _).length<_;rw[xP s6,<- hpl];exact List.length_filter_lt_length_iff_exists.2 ⟨(v0,x0),aT hp0,by simp[adg]⟩
 have hys:(zs xs.length).map (·.2)=xs.filter λx=>!p x:=by
  show((ps.take xs.length).filter _).map _=_;rw[xP s6,<- hps,List.filter_map];rfl
 generalize hze:zs xs.length=Z at *;refine go ?_;refine(cZ rfl rfl (Gu (b:=b) (o:=pre.length) (f:=f) (m:=xs.length) (c:=xs.length) (lo:=Z.length) (hi:=xs.length) rfl hf Nat.one_pos (.inr ⟨_,rfl,rfl⟩) (.inl ⟨rfl,rfl⟩) s6 (aZ _))).h ?_;refine go ?_;have hzr:zeros [Value.slice none 0 0] (xs.length - Z.length)=List.replicate (xs.length - Z.length) (.slice none 0 0):=by
  induction xs.length - Z.length with
  |zero=>rfl
  |succ n ih=>rw[xO,<- ih];rfl
 have hov:jH (pre++(Z.map (·.1)++(ps.drop Z.length).map (·.1))) (pre.length+Z.length*1) (zeros [Value.slice none 0 0] (xs.length - Z.length))=some (pre++Z.map (·.1)++List.replicate (xs.length - Z.length) (.slice none 0 0)):=by
  have e1:(pre++Z.map (·.1)).length=pre.length+Z.length*1:=B7
  rw[<- List.append_assoc,<- e1,hzr,Nc (by rw[wC,aR,lu];omega),List.drop_of_length_le (by rw[wC,aR,lu];omega),gW]
 refine Zy hov s6 ?_;refine go ?_;refine(cZ rfl rfl (Gu (b:=b) (o:=pre.length) (f:=f) (m:=xs.length) (c:=xs.length) (lo:=0) (hi:=Z.length) rfl hf Nat.one_pos (.inl ⟨rfl,rfl⟩) (.inr ⟨_,rfl,rfl⟩) (bM _) s6)).h ?_;rw[Ff,xL,xN,xN];refine gP b ?_;refine eD (Hl Z) (λw hw q hq=>hw (Hl ps) s7 q (by
  have:q∈(ps.take xs.length).filter λq=>!p q.2:=by rw[<- hze]at hq;exact hq
  exact xK (ug.1 this).1)) ?_
 refine eD (aj (az ai) (.slice (some ⟨b,pre.length,some f⟩) Z.length xs.length) (Z.map (·.2))) (λw hw=>aqm (hw (bW b 0 (pre++Z.map (·.1)++List.replicate (xs.length - Z.length) (.slice none 0 0))) s7) (hw (Hl Z) s7) s6 hf (λk q hk=>by
  have hkl:=(aV.1 hk).1;rw[List.append_assoc,jP s6,Pp,jL (by rw[aR];exact hkl),bU,hk];rfl)) ?_
 rw[hys];refine go ?_;exact gQ (.slice (some ⟨b,pre.length,some f⟩) Z.length xs.length) trivial
noncomputable def Ho(k:aQ):ae (ae Int):=open Classical in (sw k).filter λx=>decide (eU k x (upTo' k.decl.symbols.length))
structure aqr(k:aQ)(G:List (List Int))(cl:List Int)(e:Int):Prop where
 nk:¬bE k->e=180
 err:bE k->e=0\/e=2
 nil:e≠0->G=[]/\cl=[]
 grk:e=0->nT k G cl
 aub:e=0->∃l,qc k.grid.cells.length (Ho k) l l.length/\G.Perm l/\l.length<=4096
 ord:e=0->G.Pairwise λx y=>¬dN dx y x<0
structure aqt where
 v1:Value
 v2:Value
 G:List (List Int)
 cl:List Int
 e:Int
def aqu{P:Program}{args:ae ah}{K:Prop}[Decidable K](h:aX P fn args cap kl F (λb:Bool=>.bool (!b)) (λ_=>[]) (λ_=>[]) (λb=>b=true↔K)):aX P fn args cap kl F (λ_:Unit=>.bool (!decide K)) (λ_=>[]) (λ_=>[]) (λ_=>True):=λB w s=>
 .uy _ (h B w s) (by
  rintro r pm h' ⟨h1,w',b,h2,h3,h4,h5⟩;have e:b=decide K:=by
   cases b with
   |true=>exact(eT (h5.1 rfl)).symm
   |false=>exact(bY λk=>by have:=h5.2 k;cases this).symm
  subst e;exact⟨h1,w',(),h2,h3,h4,trivial⟩)
variable{k:aQ}
def aqv{q:ae Int}:∀i,q∈(kU k i).2->q.length=k.grid.cells.length:=by
 intro i;unfold kU;have key:∀(l:ae (ae (ae Int)×Nat)) (z:su),(∀q∈z.2,q.length=k.grid.cells.length)->∀q∈(l.foldl (λz q=>if Dr q.2=true then ny z (nu k.grid.cells.length q.1)else z) z).2,q.length=k.grid.cells.length:=by
  intro l;induction l with
  |nil=>intro z h;exact h
  |cons a l ih=>
   intro z h;rw[nC];refine ih _ λq hq=>?_;split at hq
   .rcases UZ _ _ hq with hq|hq
    .exact h q hq
    .exact OW hq
   .exact h q hq
 refine key _ _ (λq hq=>?_) q;rcases UZ _ _ hq with hq|hq
 .cases hq
 .exact acV hq
def aqw:∀q∈sw k,q.length=k.grid.cells.length:=λq hq=>aqv _ hq
def aqx(hK:bE k):(sw k).length<=1000000000:=by
 have Kt:k.lists.length<=12:=by
  exact pL
 have hrg:∀r∈k.decl.regions,xe (bP k.decl) r.lists:=λr hr=>(hK.typ.Dc r hr).1.2;have hlf:∀L∈k.lists,L.length<=2048:=λL hL=>NI hK.bO hrg L (by rw[<- hK.lists];exact hL);have key:∀(l:ae (ae (ae Int)×Nat)) (z:su),(∀a∈l,a.1.length<=2048)->(l.foldl (λz q=>if Dr q.2=true then ny z (nu k.grid.cells.length q.1)else z) z).2.length<=z.2.length+l.length*4194304:=by
  intro l;induction l with
  |nil=>intro z _;exact Ph _ _
  |cons a l ih=>
   intro z h;rw[nC];have h1:=h a (dD ..);have h2:=ac4 (n:=k.grid.cells.length) (lists:=a.1);have h3:a.1.length*a.1.length<=2048*2048:=Nat.mul_le_mul h1 h1;have h4:=Dq (nu k.grid.cells.length a.1) z;refine oH (ih _ λb hb=>h b (dB _ hb)) ?_;rw[nW];split<;>omega
 unfold sw kU;refine oH (key _ _ λa ha=>?_) ?_
 .have:=xK ha;rw[yY]at this;obtain⟨i,hi⟩:=this;rw[VT]at hi;obtain⟨L,hL,e⟩:=kg.1 hi;rw[<- e];exact hlf L (aT hL)
 .have h1:=Dq (o9 k.grid) ([],[]);have h2:=acW k.grid;simp only[wB]at h1;rw[fU,List.length_zipIdx];omega
def aqy{vh vs vr vc vu gh gc vn vl:ah}(hS:qg k):
 aX Tryz.prog (.func 49) [.agg ⟨jO k vh vs vr vc vu gh gc vn vl⟩] [] [] (iT k vh vs vr vc vu gh gc vn vl []) (λy:aqt=>.tuple ⟨[.agg ⟨[y.v1,y.v2]⟩,iV y.e]⟩) (λ_=>[]) (λy=>[aj (az ai) y.v1 y.G,aj ai y.v2 y.cl]) (λy=>aqr k y.G y.cl y.e):=by
 refine gB 49 λB w0=>?_;dsimp only[iT];refine gF ai gc k.grid.cells λag cg eg=>?_;subst eg;refine gF kF vs k.decl.symbols λqd cs1 es1=>?_;subst es1;by_cases hK:bE k
 rotate_left
 .refine go ?_;intro b1 b2;refine gC (ap0 (k:=k) hS hK) λ_ _=>?_;refine go ?_;refine eD (aj (az ai) (.slice none 0 0) ([]:ae (ae Int))) (λw _=>.inl ⟨rfl,none,0,rfl,trivial⟩) ?_;refine eD (aj ai (.slice none 0 0) ([]:ae Int)) (λw _=>.inl ⟨rfl,none,0,rfl,trivial⟩) ?_;exact gQ ⟨.slice none 0 0,.slice none 0 0,[],[],180⟩ ⟨λ_=>rfl,λh=>absurd h hK,λ_=>⟨rfl,rfl⟩,(λh=>by cases h),(λh=>by cases h),(λh=>by cases h)⟩
 refine go ?_;intro b1 b2;refine gC (apZ (k:=k) hS hK) λc0 _=>?_;generalize gv (az ai).n c0 (sw k).length=aqz;refine go ?_;intro b6;refine go ?_;refine gP b1 ?_;refine gP b6 ?_;have hg:ic k.grid:=by rw[hK.grid];exact hK.bO
 have hcl:=hg.len;have hm:=hK.typ.lim.s1;have hcan:∀p∈sw k,p.length=k.grid.cells.length:=aqw;have hcf:=aqx hK
 classical
 refine iy (aqo (fn:=.func 88) (first:=[]) (cap:=[ptr' b1,ptr' b6]) (F1:=bW b1 0 (jO k vh (.slice qd k.decl.symbols.length cs1) vr vc vu gh (.slice ag k.grid.cells.length cg) vn vl)::bW b6 0 [iV (k.decl.symbols.length:Int)]::iT k vh (.slice qd k.decl.symbols.length cs1) vr vc vu gh (.slice ag k.grid.cells.length cg) vn vl []) (p:=λx=>!decide (eU k x (upTo' k.decl.symbols.length))) (v:=aqz) (xs:=sw k) s6 (λx hx=>λv=>(aqu (ap3 (b1:=b1) (b2:=b6) (k:=k) hK x (by have:=hcan x hx;omega) v)))) (next:=λvd _=>?_) (hF:=by dsimp only[iT];repeat (first|exact Sub.nil|(apply Sub.cons;(focus ((repeat (first|with_reducible exact dD .. |with_reducible apply dB));first|done|fail)))));have hgf:(sw k).filter (λx=>!!decide (eU k x (upTo' k.decl.symbols.length)))=Ho k:=by
  unfold Ho;simp only[Bool.not_not]
 rw[hgf];have hgl:(Ho k).length<=(sw k).length:=HZ ..;have hgm:∀x∈Ho k,eU k x (upTo' k.decl.symbols.length):=λx hx=>ko (ug.1 hx).2;refine gC (aqj (n:=k.grid.cells.length) (v:=vd) (gu:=Ho k) hcl s6 (λx hx=>by have:=(hgm x hx).pc.len;omega)) λy hy=>?_;obtain⟨vG,G,e⟩:=y;dsimp only at hy⊢;refine gZ (jr (E:=az ai) (v:=vG) (xs:=G)) ?_;refine gF (az ai) vG G λaG cG eG=>?_;subst eG;refine aO ?_ ?_<;>intro h1
 .have he2:e=2:=(hy.err h1).2 λg hg=>(hgm g hg).pc;refine go ?_;refine eD (aj (az ai) (.slice none 0 0) ([]:ae (ae Int))) (λw _=>.inl ⟨rfl,none,0,rfl,trivial⟩) ?_;refine eD (aj ai (.slice none 0 0) ([]:ae Int)) (λw _=>.inl ⟨rfl,none,0,rfl,trivial⟩) ?_;exact gQ ⟨.slice none 0 0,.slice none 0 0,[],[],e⟩ ⟨λh=>absurd hK h,λ_=>.inr he2,λ_=>⟨rfl,rfl⟩,λh=>absurd h h1,λh=>absurd h h1,λh=>absurd h h1⟩
 have hz:e=0:=kv.1 h1;subst hz;obtain⟨l,hC,hperm,hlm,nS⟩:=hy.ok rfl;refine go ?_;refine lT ai ?_;refine dV (λy:Nat×ah×ae Int=>k.decl.symbols.length - y.1) (λy=>[(44,iV (y.1:Int))]) (λy=>[pt b2 (.cells [.slice aG G.length cG,y.2.1]),ap ai y.2.1 y.2.2]) (λ_=>[]) (λy=>y.1<=k.decl.symbols.length/\y.2.2.length=y.1/\∀u:Nat,u<y.1->∃i:Nat,y.2.2[u]? =some (i:Int)/\G6 k u i) (0,.slice none 0 0,[]) ⟨bM _,rfl,λu hu=>absurd hu (yU _)⟩ (hk:=s9) (body:=?_);rintro⟨j,ja,cl⟩ ⟨hj,Dh,hcls⟩;dsimp only at hj Dh hcls⊢;refine aO ?_ ?_<;>intro h2
 rotate_left
 .obtain rfl:j=k.decl.symbols.length:=by omega
  refine gZ (jr (E:=ai) (v:=ja) (xs:=cl)) ?_;refine go ?_;exact gQ ⟨.slice aG G.length cG,ja,G,cl,0⟩ ⟨λh=>absurd hK h,λ_=>.inl rfl,λh=>absurd rfl h,λ_=>aom hK hgm hC hperm Dh hcls,λ_=>⟨l,hC,hperm,hlm⟩,λ_=>nS⟩
 refine gN j 9 (λi=>i<=j/\∀u:Nat,u<i->¬oZ k (u:Int) (j:Int)) ⟨bM _,λu hu=>absurd hu (yU _)⟩ ?_;rintro i ⟨hi,hno⟩;refine aO ?_ ?_<;>intro h3
 rotate_left
 .have hij:j=i:=by omega
  subst hij;have hL:G6 k j j:=⟨aZ _,oZ.refl _ _,hno⟩
  refine go ?_;intro b71;refine kY ai (v:=ja) (xs:=cl) (j:Int) () s6 (next:=λv2=>?_);refine go ?_;refine aU (j+1,.slice v2 (cl.length+1) (cl.length+1),cl++[(j:Int)]) Ge ⟨by show j+1<=_;omega,by show(cl++[(j:Int)]).length=j+1;rw[eF,Dh];rfl,λu hu=>?_⟩;show∃w:Nat,(cl++[(j:Int)])[u]? =some (w:Int)/\G6 k u w;by_cases hu2:u<j
  .exact oe
  .have hu3:u=j:=by have:u<j+1:=hu;omega
   rw[hu3];exact⟨j,by rw[jP s6,Dh,nX];rfl,hL⟩
 refine gC (U0 (n:=k.decl.symbols.length) s6) λbp _=>?_;refine go ?_;have rq:=kK k.decl.symbols.length;refine jN (b:=bp) (o:=0+i*1) (cs:=(upTo' k.decl.symbols.length).map iV) (v:=iV (j:Int)) (cs':=((upTo' k.decl.symbols.length).set i (j:Int)).map iV) (by rw[show 0+i*1=i by omega,pQ]) (by rw[aR,rq];omega) ?_;refine go ?_;refine jN (b:=bp) (o:=0+j*1) (cs:=((upTo' k.decl.symbols.length).set i (j:Int)).map iV) (v:=iV (i:Int)) (cs':=(yN k.decl.symbols.length i j).map iV) (by rw[show 0+j*1=j by omega,<- pQ];rfl) (by rw[aR,ku,rq];omega) ?_;have hxl:(yN k.decl.symbols.length i j).length=k.decl.symbols.length:=by unfold yN;rw[ku,ku,rq]
 refine gZ (qP (b:=bp) (f:=0) (c:=k.decl.symbols.length) (xs:=yN k.decl.symbols.length i j) (hc:=s6)) ?_;rw[hxl];refine gC (U0 (n:=k.grid.cells.length) s6) λbq _=>?_;refine gZ (U4 (bm:=bq) (n:=k.grid.cells.length)) ?_;refine gC (UQ (k:=k) (s:=upTo' k.grid.cells.length) (t:=yN k.decl.symbols.length i j) (sc:=.slice (some ⟨bq,0,some 0⟩) k.grid.cells.length k.grid.cells.length) (st:=.slice (some ⟨bp,0,some 0⟩) k.decl.symbols.length k.decl.symbols.length) hK uc s6) λb hb=>?_;have hkx:=aof hK (i:=i) (j:=j) s6 s6;refine go ?_;cases b with
 |true=>
  have hL:G6 k j i:=⟨hi,hkx.1 (hb.1 rfl),hno⟩
  refine go ?_;intro b71;refine kY ai (v:=ja) (xs:=cl) (i:Int) () s6 (next:=λv2=>?_);refine go ?_;refine aU (j+1,.slice v2 (cl.length+1) (cl.length+1),cl++[(i:Int)]) Ge ⟨by show j+1<=_;omega,by show(cl++[(i:Int)]).length=j+1;rw[eF,Dh];rfl,λu hu=>?_⟩;show∃w:Nat,(cl++[(i:Int)])[u]? =some (w:Int)/\G6 k u w;by_cases hu2:u<j
  .exact oe
  .have hu3:u=j:=by have:u<j+1:=hu;omega
   rw[hu3];exact⟨i,by rw[jP s6,Dh,nX];rfl,hL⟩
 |false=>
  have hn2:¬oZ k (i:Int) (j:Int):=λh=>by have:=hb.2 (hkx.2 h);cases this
  refine go ?_;exact aU (i+1) s6 ⟨s6,λu hu=>by
   by_cases e:u=i
   .rw[e];exact hn2
   .exact hno u s6⟩
