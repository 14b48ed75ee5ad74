/- Part. -/
import Derived.Test.YtgimfpcgbmpkhaaGreatLibPT
set_option linter.all false
set_option maxRecDepth 10000
set_option maxHeartbeats 4000000
namespace Go.Proofs.YtgimfpcgbmpkhaaGreat
open Go.Ideal Kd Canon
variable{fn:Fn}{cap first:ae ah}{xs:ae (ae Int)}{F1:ae aI}{p:ae Int->Bool}
def atp{va:ah}(hl:xs.length<2^63)(hp:∀x∈xs,Dk Tryz.prog fn first cap F1 p x):
 aY Tryz.prog (.func 161) [va,.func fn ⟨first⟩ ⟨cap⟩] [] [ap (aA aj) va xs] F1 (λ_:Unit=>iV (sF p xs)) (λ_=>[ap (aA aj) va xs]) (λ_=>[]) (λ_=>True):=by
 refine l7 PU Vn λB w0=>?_;refine OM (E:=aA aj) (v:=va) (xs:=xs) λaa ea hnil=>?_;subst ea;refine gN xs.length 8 (λk=>k<=xs.length/\(xs.take k).any p=false) ⟨s6,s7⟩ ?_;rintro k ⟨hk,hno⟩;refine aK ?_ ?_<;>intro h1
 .have hx:xs[k]? =some (xs[k]'(s6)):=bN _;generalize xs[k]'(s6)=x at hx;refine go ?_;refine Qw k x hx λ_ _ u=>?_;refine gC (hp x (aV hx) u) λ_ _=>?_;refine go ?_;refine yA rfl (λh2=>?_) (λh2=>?_)
  .refine aZ ?_;rw[ac4 hno hx h2];rfl
  .exact mw
 have hke:k=xs.length:=s6
 subst hke;rw[dK]at hno;refine aZ ?_;rw[ac5 hno];rfl
def IJ(ps:ae (ah×ae Int)):aI:=⟨λw=>∀p∈ps,(ay aj p.1 p.2).p w,λa h p hp=>(ay aj p.1 p.2).mono a (h p hp)⟩
variable{F:ae aI}{kl:ae OA}{v:ah}
def atq{B:ae Nat}{w0:Wd}{kl':ae OA}{Q:IH->Prop}(h0:0<xs.length)(h:∀b f pre ps,v=.slice (some ⟨b,pre.length,some f⟩) xs.length xs.length->(f=0\/f=1)->ps.map (·.2)=xs->R Q B w0 (pt b (.cells (pre++ps.map (·.1)))::kl') (IJ ps::F))(hk:aD (ap (aA aj) v xs) kl kl':=by exact dG):R Q B w0 kl F:=λw s=>by
 have s1:=s.fB hk;obtain⟨S,⟨S1,S2,q1,q2,e⟩,h2,h3⟩:=s1.own;rcases q1 with⟨h,_⟩|⟨b,o,f,cells,e1,hf,e2,hb,hcl,hel⟩
 .rw[h]at h0;simp at h0
 have hcl:cells.length=o+xs.length:=by rw[hcl];show o+xs.length*1=_;omega
 have hel:∀(k:Nat) x,xs[k]? =some x->∃y,cells[o+k]? =some y/\(ay aj y x).p w:=λk x hk=>by
  obtain⟨y,u1,u2⟩:=hel k x hk;refine⟨y,?_,u2 _ (bR.2 rfl)⟩;have:=u1 0 y rfl
  rwa [show o+k*(aA aj).n+0=o+k by show o+k*1+0=o+k;omega]at this
 have hdl:(cells.drop o).length=xs.length:=wl
 have hz1:((cells.drop o).zip xs).map (·.1)=cells.drop o:=by
  rw[<- List.unzip_fst,List.unzip_zip s6]
 have hz2:((cells.drop o).zip xs).map (·.2)=xs:=by
  rw[<- List.unzip_snd,List.unzip_zip s6]
 have ho:(cells.take o).length=o:=tR
 refine h b f (cells.take o) ((cells.drop o).zip xs) (by rw[ho];exact e1) hf hz2 w ⟨s.agree,s.le,s.fF,⟨S,⟨S1,S2,⟨e2,by rw[hz1,l5];exact hb⟩,q2,e⟩,h2,h3⟩,λg hg=>?_⟩;rcases dm.1 hg with rfl|hg
 .intro p hp;obtain⟨k,hk⟩:=gT hp;have hk2:xs[k]? =some p.2:=by rw[<- hz2,eF,hk];rfl
  have hk1:(cells.drop o)[k]? =some p.1:=by conv=>lhs;rw[<- hz1]
                                            rw[eF,hk];rfl
  obtain⟨y,y1,y2⟩:=hel k p.2 hk2;rw[rH,y1]at hk1;cases hk1;exact y2
 .exact s.facts g hg
def atr{b o f c:Nat}{cs:ae ah}{ps:ae (ah×ae Int)}{w:Wd}(h1:(aX b 0 cs).p w)(h2:(IJ ps).p w)(hc:ps.length<=c)(hf:f=0\/f=1)(hcs:∀(k:Nat) p,ps[k]? =some p->cs[o+k]? =some p.1):
 (ay (aA aj) (.slice (some ⟨b,o,some f⟩) ps.length c) (ps.map (·.2))).p w:=by
 obtain⟨cells,q1,q2⟩:=h1;refine .inr ⟨b,o,f,c,cells,⟨by rw[bi],by rw[bi];exact hc,hf⟩,q1,λk x hk=>?_⟩;rw[eF]at hk;obtain⟨p,hp,e⟩:=lT.1 hk;subst e;refine⟨p.1,λj u hj=>?_,λf hf=>by rw[bR.1 hf];exact h2 p (aV hp)⟩;match j,hj with
 |0,hj=>
  have hj:some p.1=some u:=hj;have:=q2 (o+k) _ (hcs k p hp);rw[show o+k*(aA aj).n+0=0+(o+k)by show o+k*1+0=_;omega,this];exact hj
 |j+1,hj=>cases hj
def att(p:ae Int->Bool)(xs:ae (ae Int)):(sF p xs= -1/\xs.filter (λx=>!p x)=xs)\/∃(i:Nat) (x:ae Int),sF p xs=(i:Int)/\xs[i]? =some x/\p x=true/\(xs.take i).any p=false:=by
 unfold sF;cases h:xs.findIdx? p with
 |none=>
  left;refine⟨rfl,QJ.2 λx hx=>?_⟩;rw[aeR]at h;rw[h x hx];rfl
 |some i=>
  right;rw[aeQ]at h;obtain⟨h1,h2,h3⟩:=h;refine⟨i,xs[i],rfl,bN h1,h2,?_⟩;rw[Ml];intro x hx;obtain⟨j,hj⟩:=gT hx;rw[wP]at hj;split at hj
  .rename_i hji;have:=h3 j hji;rw[bN s6]at hj;cases hj;simpa using this
  .cases hj
def atu(hl:xs.length<4611686018427387904)(hp:∀x∈xs,Dk Tryz.prog fn first cap F1 p x):
 aY Tryz.prog (.func 57) [v,.func fn ⟨first⟩ ⟨cap⟩] [] [ap (aA aj) v xs] F1 (λw:ah=>w) (λ_=>[]) (λw=>[ay (aA aj) w (xs.filter λx=>!p x)]) (λ_=>True):=by
 refine gB 57 λB w0=>?_;refine gC (atp (va:=v) (xs:=xs) s6 hp) λ_ _=>?_;refine go ?_;rcases att p xs with⟨e1,e2⟩|⟨i0,x0,e1,hx0,aeH,hno⟩
 .rw[e1];refine gZ (ja (E:=aA aj) (v:=v) (xs:=xs)) ?_;refine go ?_;exact gQ v trivial (hF:=by rw[e2];exact .cons s7 .nil)
 rw[e1];have hi0:=(bz.1 hx0).1;refine rU rfl ?_ ?_<;>intro h1
 .exfalso;omega
 refine atq (v:=v) (xs:=xs) s6 λb f pre ps ev hf hps=>?_;subst ev;have hpl:ps.length=xs.length:=by rw[<- hps,bi]
 let zs:Nat->ae (ah×ae Int):=λj=>(ps.take j).filter λq=>!p q.2
 have hzl:∀j,(zs j).length<=j:=λj=>lZ (zh ..) tR;have hp0:∃v0,ps[i0]? =some (v0,x0):=by
  have:(ps.map (·.2))[i0]? =some x0:=by rw[hps];exact hx0
  rw[eF]at this;obtain⟨q,hq,e⟩:=lT.1 this;exact⟨q.1,by rw[hq,<- e]⟩
 obtain⟨v0,hp0⟩:=hp0;have hz0:zs (i0+1)=ps.take i0:=by
  show(ps.take (i0+1)).filter _=_;rw[fq hp0,ze];have e1:(ps.take i0).filter (λq=>!p q.2)=ps.take i0:=QJ.2 λq hq=>by
   have:q.2∈xs.take i0:=by rw[<- hps,<- List.map_take];exact List.mem_map_of_mem hq
   have:=Ml.1 hno q.2 this;simpa using this
  have e2:([(v0,x0)]:ae (ah×ae Int)).filter (λq=>!p q.2)=[]:=by
   rw[FH];simp[aeH]
  rw[e1,e2,jo]
 have aeI:(zs (i0+1)).length=i0:=by rw[hz0,gW];omega
 have hcells:ps.map (·.1)=(zs (i0+1)).map (·.1)++(ps.drop (zs (i0+1)).length).map (·.1):=by
  rw[aeI,hz0,<- bZ,l5]
 refine go ?_;rw[hcells];refine dL (λj:Nat=>xs.length - j) (λj=>[(6,iV (j:Int)),(5,iV ((zs j).length:Int))]) (λj=>[pt b (.cells (pre++((zs j).map (·.1)++(ps.drop (zs j).length).map (·.1))))]) (λ_=>[]) (λj=>i0+1<=j/\j<=xs.length) (i0+1) ⟨bG _,s6⟩ (hl:=?_) (hk:=tc) (body:=?_)
 .refine⟨rfl,?_,?_⟩
  .show Value.int .i64 (i0:Int)=iV ((zs (i0+1)).length:Int);rw[aeI]
  .repeat (first|exact trivial|refine⟨rfl,?_⟩)
 rintro j ⟨hj1,hj2⟩;have hW:=hzl j;refine aK ?_ ?_<;>intro h2
 .have hq:ps[j]? =some (ps[j]'(s6)):=bN _;generalize hqe:ps[j]'(s6)=q at hq;obtain⟨vq,x⟩:=q;have sV:xs[j]? =some x:=by rw[<- hps,eF,hq];rfl
  have hget:(pre++((zs j).map (·.1)++(ps.drop (zs j).length).map (·.1)))[pre.length+j*1]? =some vq:=by
   rw[sN s6,sN vj,bi,eF,rH,show(zs j).length+(pre.length+j*1 - pre.length - (zs j).length)=j by omega,hq];rfl
  refine go ?_;refine fA (ay aj vq x) (λw hw=>hw (IJ ps) s7 (vq,x) (aV hq)) ?_;refine gF aj vq x λaq cq eq=>?_;subst eq;refine oN (b:=b) (o:=pre.length+j*1) (cs:=pre++((zs j).map (·.1)++(ps.drop (zs j).length).map (·.1))) (.slice aq x.length cq) hget ?_;refine gC (hp x (aV sV) (.slice aq x.length cq)) λ_ _=>?_;refine go ?_;have hzs:zs (j+1)=zs j++(if p x=true then[]else[(.slice aq x.length cq,x)]):=by
   show(ps.take (j+1)).filter _=_;rw[fq hq,ze];congr 1;rw[FH];cases p x<;>rfl
  cases hpx:p x with
  |true=>
   rw[hpx,if_pos rfl,jo]at hzs;refine go ?_;rw[<- hzs];exact aW (j+1) s6 ⟨s6,s6⟩
  |false=>
   rw[hpx,if_neg s7]at hzs;refine go ?_;have hdrop:(ps.drop (zs j).length)=(ps[(zs j).length]'(s6))::ps.drop ((zs j).length+1):=mX s6;have hset:(pre++((zs j).map (·.1)++(ps.drop (zs j).length).map (·.1))).set (pre.length+(zs j).length*1) (.slice aq x.length cq)=pre++((zs (j+1)).map (·.1)++(ps.drop (zs (j+1)).length).map (·.1)):=by
    rw[DU _ _ s6,DU _ _ vj,bi,show pre.length+(zs j).length*1 - pre.length - (zs j).length=0 by omega,hdrop,iX,List.set_cons_zero,hzs,bZ,fu];simp
   refine jN (b:=b) (o:=pre.length+(zs j).length*1) (cs:=pre++((zs j).map (·.1)++(ps.drop (zs j).length).map (·.1))) (v:=.slice aq x.length cq) (cs':=pre++((zs (j+1)).map (·.1)++(ps.drop (zs (j+1)).length).map (·.1))) hset th ?_;have atv:(zs (j+1)).length=(zs j).length+1:=by rw[hzs,fu];rfl
   refine go ?_;rw[show((zs j).length:Int)+1=((zs (j+1)).length:Int)by rw[atv];rfl];exact aW (j+1) s6 ⟨s6,s6⟩
 obtain rfl:j=xs.length:=s6
 have hzn:(zs xs.length).length<xs.length:=by
  show((ps.take xs.length).filter _).length<_;rw[Ag s6,<- hpl];exact List.length_filter_lt_length_iff_exists.2 ⟨(v0,x0),aV hp0,by simp[aeH]⟩
 have hys:(zs xs.length).map (·.2)=xs.filter λx=>!p x:=by
  show((ps.take xs.length).filter _).map _=_;rw[Ag s6,<- hps,List.filter_map];rfl
 generalize hze:zs xs.length=Z at *;refine go ?_;refine(dx rfl rfl (GY (b:=b) (o:=pre.length) (f:=f) (m:=xs.length) (c:=xs.length) (lo:=Z.length) (hi:=xs.length) rfl hf Nat.one_pos (.inr ⟨_,rfl,rfl⟩) (.inl ⟨rfl,rfl⟩) s6 (bG _))).h ?_;refine go ?_;have hzr:zeros [Value.slice none 0 0] (xs.length - Z.length)=List.replicate (xs.length - Z.length) (.slice none 0 0):=by
  induction xs.length - Z.length with
  |zero=>rfl
  |succ n ih=>rw[wR,<- ih];rfl
 have hov:jV (pre++(Z.map (·.1)++(ps.drop Z.length).map (·.1))) (pre.length+Z.length*1) (zeros [Value.slice none 0 0] (xs.length - Z.length))=some (pre++Z.map (·.1)++List.replicate (xs.length - Z.length) (.slice none 0 0)):=by
  have e1:(pre++Z.map (·.1)).length=pre.length+Z.length*1:=by rw[fu,bi];omega
  rw[<- fo,<- e1,hzr,OE (by rw[zg,bi,uo];omega),List.drop_of_length_le (by rw[zg,bi,uo];omega),jo]
 refine aap hov s6 ?_;refine go ?_;refine(dx rfl rfl (GY (b:=b) (o:=pre.length) (f:=f) (m:=xs.length) (c:=xs.length) (lo:=0) (hi:=Z.length) rfl hf Nat.one_pos (.inl ⟨rfl,rfl⟩) (.inr ⟨_,rfl,rfl⟩) (bI _) s6)).h ?_;rw[IW,FD,BQ,BQ];refine gP b ?_;refine fA (IJ Z) (λw hw q hq=>hw (IJ ps) s7 q (by
  have:q∈(ps.take xs.length).filter λq=>!p q.2:=by rw[<- hze]at hq;exact hq
  exact FL (qm.1 this).1)) ?_
 refine fA (ay (aA aj) (.slice (some ⟨b,pre.length,some f⟩) Z.length xs.length) (Z.map (·.2))) (λw hw=>atr (hw (aX b 0 (pre++Z.map (·.1)++List.replicate (xs.length - Z.length) (.slice none 0 0))) s7) (hw (IJ Z) s7) s6 hf (λk q hk=>by
  have hkl:=(bz.1 hk).1;rw[fo,sN s6,Nat.add_sub_cancel_left,ql (by rw[bi];exact hkl),eF,hk];rfl)) ?_
 rw[hys];refine go ?_;exact gQ (.slice (some ⟨b,pre.length,some f⟩) Z.length xs.length) trivial
noncomputable def IK(k:aT):ae (ae Int):=open Classical in (sM k).filter λx=>decide (eU k x (upTo' k.decl.symbols.length))
structure atw(k:aT)(G:List (List Int))(cl:List Int)(e:Int):Prop where
 nk:¬bD k->e=180
 err:bD k->e=0\/e=2
 nil:e≠0->G=[]/\cl=[]
 grk:e=0->Ip k G cl
 aty:e=0->∃l,qg k.grid.cells.length (IK k) l l.length/\G.Perm l/\l.length<=4096
 ord:e=0->G.Pairwise λx y=>¬eD dB y x<0
structure atz where
 v1:Value
 v2:Value
 G:List (List Int)
 cl:List Int
 e:Int
def atA{P:Program}{args:ae ah}{K:Prop}[Decidable K](h:aY P fn args cap kl F (λb:Bool=>.bool (!b)) (λ_=>[]) (λ_=>[]) (λb=>b=true↔K)):aY P fn args cap kl F (λ_:Unit=>.bool (!decide K)) (λ_=>[]) (λ_=>[]) (λ_=>True):=λB w s=>
 .vQ _ (h B w s) (by
  rintro r pm h' ⟨h1,w',b,h2,h3,h4,h5⟩;have e:b=decide K:=by
   cases b with
   |true=>exact(eB (h5.1 rfl)).symm
   |false=>exact(dA λk=>by have:=h5.2 k;cases this).symm
  subst e;exact⟨h1,w',(),h2,h3,h4,trivial⟩)
variable{k:aT}
def atB{q:ae Int}:∀i,q∈(lq k i).2->q.length=k.grid.cells.length:=by
 intro i;unfold lq;have key:∀(l:ae (ae (ae Int)×Nat)) (z:sK),(∀q∈z.2,q.length=k.grid.cells.length)->∀q∈(l.foldl (λz q=>if DJ q.2=true then nE z (nD k.grid.cells.length q.1)else z) z).2,q.length=k.grid.cells.length:=by
  intro l;induction l with
  |nil=>intro z h;exact h
  |cons a l ih=>
   intro z h;rw[vI];refine ih _ λq hq=>?_;split at hq
   .rcases Wy _ _ hq with hq|hq
    .exact h q hq
    .exact QA hq
   .exact h q hq
 refine key _ _ (λq hq=>?_) q;rcases Wy _ _ hq with hq|hq
 .cases hq
 .exact aeo hq
def atC:∀q∈sM k,q.length=k.grid.cells.length:=λq hq=>atB _ hq
def atD(hK:bD k):(sM k).length<=1000000000:=by
 have Lu:k.lists.length<=12:=by
  exact qk
 have hrg:∀r∈k.decl.regions,uT (bO k.decl) r.lists:=λr hr=>(hK.typ.wH r hr).1.2;have hlf:∀L∈k.lists,L.length<=2048:=λL hL=>KG hK.bJ hrg L (by rw[<- hK.lists];exact hL);have key:∀(l:ae (ae (ae Int)×Nat)) (z:sK),(∀a∈l,a.1.length<=2048)->(l.foldl (λz q=>if DJ q.2=true then nE z (nD k.grid.cells.length q.1)else z) z).2.length<=z.2.length+l.length*4194304:=by
  intro l;induction l with
  |nil=>intro z _;exact Nat.le_add_right _ _
  |cons a l ih=>
   intro z h;rw[vI];have h1:=h a (eX ..);have h2:=aex (n:=k.grid.cells.length) (lists:=a.1);have h3:a.1.length*a.1.length<=2048*2048:=Nat.mul_le_mul h1 h1;have h4:=DI (nD k.grid.cells.length a.1) z;refine lZ (ih _ λb hb=>h b (fP _ hb)) ?_;rw[rJ];split<;>omega
 unfold sM lq;refine lZ (key _ _ λa ha=>?_) ?_
 .have:=FL ha;rw[zb]at this;obtain⟨i,hi⟩:=this;rw[List.getElem?_zipIdx]at hi;obtain⟨L,hL,e⟩:=lT.1 hi;rw[<- e];exact hlf L (aV hL)
 .have h1:=DI (oW k.grid) ([],[]);have h2:=aep k.grid;simp only[BP]at h1;rw[gW,W9];omega
def atE{vh vs vr vc vu gh gc vn vl:ah}(hS:nU k):
 aY Tryz.prog (.func 16) [.agg ⟨jE k vh vs vr vc vu gh gc vn vl⟩] [] [] (iO k vh vs vr vc vu gh gc vn vl []) (λy:atz=>.tuple ⟨[.agg ⟨[y.v1,y.v2]⟩,iV y.e]⟩) (λ_=>[]) (λy=>[ay (aA aj) y.v1 y.G,ay aj y.v2 y.cl]) (λy=>atw k y.G y.cl y.e):=by
 refine gB 16 λB w0=>?_;dsimp only[iO];refine gF aj gc k.grid.cells λag cg eg=>?_;subst eg;refine gF jO vs k.decl.symbols λjg cs1 es1=>?_;subst es1;by_cases hK:bD k
 rotate_left
 .refine go ?_;intro b1 b2;refine gC (as5 (k:=k) hS hK) λ_ _=>?_;refine go ?_;refine fA (ay (aA aj) (.slice none 0 0) ([]:ae (ae Int))) (λw _=>.inl ⟨rfl,none,0,rfl,trivial⟩) ?_;refine fA (ay aj (.slice none 0 0) ([]:ae Int)) (λw _=>.inl ⟨rfl,none,0,rfl,trivial⟩) ?_;exact gQ ⟨.slice none 0 0,.slice none 0 0,[],[],180⟩ ⟨λ_=>rfl,λh=>absurd h hK,λ_=>⟨rfl,rfl⟩,(λh=>by cases h),(λh=>by cases h),(λh=>by cases h)⟩
 refine go ?_;intro b1 b2;refine gC (asZ (k:=k) hS hK) λc0 _=>?_;generalize gv (aA aj).n c0 (sM k).length=atF;refine go ?_;intro b6;refine go ?_;refine gP b1 ?_;refine gP b6 ?_;have hg:ig k.grid:=by rw[hK.grid];exact hK.bJ
 have hcl:=hg.len;have hm:=hK.typ.lim.s1;have hcan:∀p∈sM k,p.length=k.grid.cells.length:=atC;have hcf:=atD hK
 classical
 refine fH (atu (fn:=.func 58) (first:=[]) (cap:=[ptr' b1,ptr' b6]) (F1:=aX b1 0 (jE k vh (.slice jg k.decl.symbols.length cs1) vr vc vu gh (.slice ag k.grid.cells.length cg) vn vl)::aX b6 0 [iV (k.decl.symbols.length:Int)]::iO k vh (.slice jg k.decl.symbols.length cs1) vr vc vu gh (.slice ag k.grid.cells.length cg) vn vl []) (p:=λx=>!decide (eU k x (upTo' k.decl.symbols.length))) (v:=atF) (xs:=sM k) s6 (λx hx=>λv=>(atA (as7 (b1:=b1) (b2:=b6) (k:=k) hK x (by have:=hcan x hx;omega) v)))) (next:=λvd _=>?_) (hF:=by dsimp only[iO];repeat (first|exact Sub.nil|(apply Sub.cons;(focus ((repeat (first|with_reducible exact eX .. |with_reducible apply fP));first|done|fail)))));have hgf:(sM k).filter (λx=>!!decide (eU k x (upTo' k.decl.symbols.length)))=IK k:=by
  unfold IK;simp only[Bool.not_not]
 rw[hgf];have hgl:(IK k).length<=(sM k).length:=zh ..;have hgm:∀x∈IK k,eU k x (upTo' k.decl.symbols.length):=λx hx=>jI (qm.1 hx).2;refine gC (ato (n:=k.grid.cells.length) (v:=vd) (gU:=IK k) hcl s6 (λx hx=>by have:=(hgm x hx).pc.len;omega)) λy hy=>?_;obtain⟨vG,G,e⟩:=y;dsimp only at hy⊢;refine gZ (ja (E:=aA aj) (v:=vG) (xs:=G)) ?_;refine gF (aA aj) vG G λaG cG eG=>?_;subst eG;refine aK ?_ ?_<;>intro h1
 .have he2:e=2:=(hy.err h1).2 λg hg=>(hgm g hg).pc;refine go ?_;refine fA (ay (aA aj) (.slice none 0 0) ([]:ae (ae Int))) (λw _=>.inl ⟨rfl,none,0,rfl,trivial⟩) ?_;refine fA (ay aj (.slice none 0 0) ([]:ae Int)) (λw _=>.inl ⟨rfl,none,0,rfl,trivial⟩) ?_;exact gQ ⟨.slice none 0 0,.slice none 0 0,[],[],e⟩ ⟨λh=>absurd hK h,λ_=>.inr he2,λ_=>⟨rfl,rfl⟩,λh=>absurd h h1,λh=>absurd h h1,λh=>absurd h h1⟩
 have hz:e=0:=j6.1 h1;subst hz;obtain⟨l,hC,hperm,hlm,qJ⟩:=hy.ok rfl;refine go ?_;refine kv aj ?_;refine dL (λy:Nat×ah×ae Int=>k.decl.symbols.length - y.1) (λy=>[(44,iV (y.1:Int))]) (λy=>[pt b2 (.cells [.slice aG G.length cG,y.2.1]),ap aj y.2.1 y.2.2]) (λ_=>[]) (λy=>y.1<=k.decl.symbols.length/\y.2.2.length=y.1/\∀u:Nat,u<y.1->∃i:Nat,y.2.2[u]? =some (i:Int)/\Iq k u i) (0,.slice none 0 0,[]) ⟨bI _,rfl,λu hu=>absurd hu (Cc _)⟩ (hk:=tc) (body:=?_);rintro⟨j,BA,cl⟩ ⟨hj,Dr,hcls⟩;dsimp only at hj Dr hcls⊢;refine aK ?_ ?_<;>intro h2
 rotate_left
 .obtain rfl:j=k.decl.symbols.length:=by omega
  refine gZ (ja (E:=aj) (v:=BA) (xs:=cl)) ?_;refine go ?_;exact gQ ⟨.slice aG G.length cG,BA,G,cl,0⟩ ⟨λh=>absurd hK h,λ_=>.inl rfl,λh=>absurd rfl h,λ_=>aqw hK hgm hC hperm Dr hcls,λ_=>⟨l,hC,hperm,hlm⟩,λ_=>qJ⟩
 refine gN j 9 (λi=>i<=j/\∀u:Nat,u<i->¬oU k (u:Int) (j:Int)) ⟨bI _,λu hu=>absurd hu (Cc _)⟩ ?_;rintro i ⟨hi,hno⟩;refine aK ?_ ?_<;>intro h3
 rotate_left
 .have hij:j=i:=by omega
  subst hij;have hL:Iq k j j:=⟨bG _,oU.refl _ _,hno⟩
  refine go ?_;intro b71;refine jy aj (v:=BA) (xs:=cl) (j:Int) () s6 (next:=λv2=>?_);refine go ?_;refine aW (j+1,.slice v2 (cl.length+1) (cl.length+1),cl++[(j:Int)]) E7 ⟨by show j+1<=_;omega,by show(cl++[(j:Int)]).length=j+1;rw[fu,Dr];rfl,λu hu=>?_⟩;show∃w:Nat,(cl++[(j:Int)])[u]? =some (w:Int)/\Iq k u w;by_cases hu2:u<j
  .exact oR
  .have hu3:u=j:=by have:u<j+1:=hu;omega
   rw[hu3];exact⟨j,by rw[sN s6,Dr,um];rfl,hL⟩
 refine gC (Wz (n:=k.decl.symbols.length) s6) λbp _=>?_;refine go ?_;have pO:=kK k.decl.symbols.length;refine jN (b:=bp) (o:=0+i*1) (cs:=(upTo' k.decl.symbols.length).map iV) (v:=iV (j:Int)) (cs':=((upTo' k.decl.symbols.length).set i (j:Int)).map iV) (by rw[show 0+i*1=i by omega,qo]) (by rw[bi,pO];omega) ?_;refine go ?_;refine jN (b:=bp) (o:=0+j*1) (cs:=((upTo' k.decl.symbols.length).set i (j:Int)).map iV) (v:=iV (i:Int)) (cs':=(yR k.decl.symbols.length i j).map iV) (by rw[show 0+j*1=j by omega,<- qo];rfl) (by rw[bi,lu,pO];omega) ?_;have hxl:(yR k.decl.symbols.length i j).length=k.decl.symbols.length:=by unfold yR;rw[lu,lu,pO]
 refine gZ (uJ (b:=bp) (f:=0) (c:=k.decl.symbols.length) (xs:=yR k.decl.symbols.length i j) (hc:=s6)) ?_;rw[hxl];refine gC (Wz (n:=k.grid.cells.length) s6) λbq _=>?_;refine gZ (WA (bm:=bq) (n:=k.grid.cells.length)) ?_;refine gC (Wi (k:=k) (s:=upTo' k.grid.cells.length) (t:=yR k.decl.symbols.length i j) (sc:=.slice (some ⟨bq,0,some 0⟩) k.grid.cells.length k.grid.cells.length) (st:=.slice (some ⟨bp,0,some 0⟩) k.decl.symbols.length k.decl.symbols.length) hK tS s6) λb hb=>?_;have hkx:=aqo hK (i:=i) (j:=j) s6 s6;refine go ?_;cases b with
 |true=>
  have hL:Iq k j i:=⟨hi,hkx.1 (hb.1 rfl),hno⟩
  refine go ?_;intro b71;refine jy aj (v:=BA) (xs:=cl) (i:Int) () s6 (next:=λv2=>?_);refine go ?_;refine aW (j+1,.slice v2 (cl.length+1) (cl.length+1),cl++[(i:Int)]) E7 ⟨by show j+1<=_;omega,by show(cl++[(i:Int)]).length=j+1;rw[fu,Dr];rfl,λu hu=>?_⟩;show∃w:Nat,(cl++[(i:Int)])[u]? =some (w:Int)/\Iq k u w;by_cases hu2:u<j
  .exact oR
  .have hu3:u=j:=by have:u<j+1:=hu;omega
   rw[hu3];exact⟨i,by rw[sN s6,Dr,um];rfl,hL⟩
 |false=>
  have hn2:¬oU k (i:Int) (j:Int):=λh=>by have:=hb.2 (hkx.2 h);cases this
  refine go ?_;exact aW (i+1) s6 ⟨s6,λu hu=>by
   by_cases e:u=i
   .rw[e];exact hn2
   .exact hno u s6⟩
