/- Part. -/
import Derived.Test.YtignbinlipkmfaaGreatDoorLibPR
set_option linter.all false
set_option maxRecDepth 10000
set_option maxHeartbeats 4000000
namespace Go.Proofs.YtignbinlipkmfaaGreatDoor
open Go.Ideal Kd Canon
variable{fn:Fn}{cap first:ae ah}{xs:ae (ae Int)}{F1:ae aM}{p:ae Int->Bool}
def arO{va:ah}(hl:xs.length<2^63)(hp:∀x∈xs,EN Tryz.prog fn first cap F1 p x):
 bG Tryz.prog (.func 72) [va,.func fn ⟨first⟩ ⟨cap⟩] [] [ap (ay ai) va xs] F1 (λ_:Unit=>iV (tu p xs)) (λ_=>[ap (ay ai) va xs]) (λ_=>[]) (λ_=>True):=by
 refine jD PN Vi λB w0=>?_;refine OO (E:=ay ai) (v:=va) (xs:=xs) λaa ea hnil=>?_;subst ea;refine gN xs.length 8 (λk=>k<=xs.length/\(xs.take k).any p=false) ⟨tf,tg⟩ ?_;rintro k ⟨hk,hno⟩;refine aC ?_ ?_<;>intro h1
 .have hx:xs[k]? =some (xs[k]'(tf)):=bY _;generalize xs[k]'(tf)=x at hx;refine go ?_;refine Qf k x hx λ_ _ u=>?_;refine gC (hp x (aU hx) u) λ_ _=>?_;refine go ?_;refine kX rfl (λh2=>?_) (λh2=>?_)
  .refine aP ?_;rw[ach hno hx h2];rfl
  .exact mL
 have hke:k=xs.length:=tf
 subst hke;rw[bP]at hno;refine aP ?_;rw[aci hno];rfl
def Hw(ps:ae (ah×ae Int)):aM:=⟨λw=>∀p∈ps,(aj ai p.1 p.2).p w,λa h p hp=>(aj ai p.1 p.2).mono a (h p hp)⟩
variable{F:ae aM}{kl:ae OA}{v:ah}
def arP{B:ae Nat}{w0:Wd}{kl':ae OA}{Q:IH->Prop}(h0:0<xs.length)(h:∀b f pre ps,v=.slice (some ⟨b,pre.length,some f⟩) xs.length xs.length->(f=0\/f=1)->ps.map (·.2)=xs->R Q B w0 (pt b (.cells (pre++ps.map (·.1)))::kl') (Hw ps::F))(hk:aB (ap (ay ai) v xs) kl kl':=by exact dV):R Q B w0 kl F:=λw s=>by
 have s1:=s.gz hk;obtain⟨S,⟨S1,S2,q1,q2,e⟩,h2,h3⟩:=s1.own;rcases q1 with⟨h,_⟩|⟨b,o,f,cells,e1,hf,e2,hb,hcl,hel⟩
 .rw[h]at h0;simp at h0
 have hcl:cells.length=o+xs.length:=by rw[hcl];show o+xs.length*1=_;omega
 have hel:∀(k:Nat) x,xs[k]? =some x->∃y,cells[o+k]? =some y/\(aj ai y x).p w:=λk x hk=>by
  obtain⟨y,u1,u2⟩:=hel k x hk;refine⟨y,?_,u2 _ (bS.2 rfl)⟩;have:=u1 0 y rfl
  rwa [show o+k*(ay ai).n+0=o+k by show o+k*1+0=o+k;omega]at this
 have hdl:(cells.drop o).length=xs.length:=by rw[uT];omega
 have hz1:((cells.drop o).zip xs).map (·.1)=cells.drop o:=by
  rw[<- List.unzip_fst,List.unzip_zip tf]
 have hz2:((cells.drop o).zip xs).map (·.2)=xs:=by
  rw[<- List.unzip_snd,List.unzip_zip tf]
 have ho:(cells.take o).length=o:=vA
 refine h b f (cells.take o) ((cells.drop o).zip xs) (by rw[ho];exact e1) hf hz2 w ⟨s.agree,s.le,s.fZ,⟨S,⟨S1,S2,⟨e2,by rw[hz1,si];exact hb⟩,q2,e⟩,h2,h3⟩,λg hg=>?_⟩;rcases dB.1 hg with rfl|hg
 .intro p hp;obtain⟨k,hk⟩:=iI hp;have hk2:xs[k]? =some p.2:=by rw[<- hz2,dZ,hk];rfl
  have hk1:(cells.drop o)[k]? =some p.1:=by conv=>lhs;rw[<- hz1]
                                            rw[dZ,hk];rfl
  obtain⟨y,y1,y2⟩:=hel k p.2 hk2;rw[rZ,y1]at hk1;cases hk1;exact y2
 .exact s.facts g hg
def arQ{b o f c:Nat}{cs:ae ah}{ps:ae (ah×ae Int)}{w:Wd}(h1:(dO b 0 cs).p w)(h2:(Hw ps).p w)(hc:ps.length<=c)(hf:f=0\/f=1)(hcs:∀(k:Nat) p,ps[k]? =some p->cs[o+k]? =some p.1):
 (aj (ay ai) (.slice (some ⟨b,o,some f⟩) ps.length c) (ps.map (·.2))).p w:=by
 obtain⟨cells,q1,q2⟩:=h1;refine .inr ⟨b,o,f,c,cells,⟨by rw[bC],by rw[bC];exact hc,hf⟩,q1,λk x hk=>?_⟩;rw[dZ]at hk;obtain⟨p,hp,e⟩:=lq.1 hk;subst e;refine⟨p.1,λj u hj=>?_,λf hf=>by rw[bS.1 hf];exact h2 p (aU hp)⟩;match j,hj with
 |0,hj=>
  have hj:some p.1=some u:=hj;have:=q2 (o+k) _ (hcs k p hp);rw[show o+k*(ay ai).n+0=0+(o+k)by show o+k*1+0=_;omega,this];exact hj
 |j+1,hj=>cases hj
def arR(p:ae Int->Bool)(xs:ae (ae Int)):(tu p xs= -1/\xs.filter (λx=>!p x)=xs)\/∃(i:Nat) (x:ae Int),tu p xs=(i:Int)/\xs[i]? =some x/\p x=true/\(xs.take i).any p=false:=by
 unfold tu;cases h:xs.findIdx? p with
 |none=>
  left;refine⟨rfl,Wz.2 λx hx=>?_⟩;rw[afT]at h;rw[h x hx];rfl
 |some i=>
  right;rw[afS]at h;obtain⟨h1,h2,h3⟩:=h;refine⟨i,xs[i],rfl,bY h1,h2,?_⟩;rw[M0];intro x hx;obtain⟨j,hj⟩:=iI hx;rw[vZ]at hj;split at hj
  .rename_i hji;have:=h3 j hji;rw[bY tf]at hj;cases hj;simpa using this
  .cases hj
def arS(hl:xs.length<4611686018427387904)(hp:∀x∈xs,EN Tryz.prog fn first cap F1 p x):
 bG Tryz.prog (.func 37) [v,.func fn ⟨first⟩ ⟨cap⟩] [] [ap (ay ai) v xs] F1 (λw:ah=>w) (λ_=>[]) (λw=>[aj (ay ai) w (xs.filter λx=>!p x)]) (λ_=>True):=by
 refine gB 37 λB w0=>?_;refine gC (arO (va:=v) (xs:=xs) tf hp) λ_ _=>?_;refine go ?_;rcases arR p xs with⟨e1,e2⟩|⟨i0,x0,e1,hx0,adw,hno⟩
 .rw[e1];refine gZ (gD (E:=ay ai) (v:=v) (xs:=xs)) ?_;refine go ?_;exact gQ v trivial (hF:=by rw[e2];exact .cons tg .nil)
 rw[e1];have hi0:=(bJ.1 hx0).1;refine kW rfl ?_ ?_<;>intro h1
 .exfalso;omega
 refine arP (v:=v) (xs:=xs) tf λb f pre ps ev hf hps=>?_;subst ev;have hpl:ps.length=xs.length:=by rw[<- hps,bC]
 let zs:Nat->ae (ah×ae Int):=λj=>(ps.take j).filter λq=>!p q.2
 have hzl:∀j,(zs j).length<=j:=λj=>lV (Ik ..) vA;have hp0:∃v0,ps[i0]? =some (v0,x0):=by
  have:(ps.map (·.2))[i0]? =some x0:=by rw[hps];exact hx0
  rw[dZ]at this;obtain⟨q,hq,e⟩:=lq.1 this;exact⟨q.1,by rw[hq,<- e]⟩
 obtain⟨v0,hp0⟩:=hp0;have hz0:zs (i0+1)=ps.take i0:=by
  show(ps.take (i0+1)).filter _=_;rw[bU hp0,Q0];have e1:(ps.take i0).filter (λq=>!p q.2)=ps.take i0:=Wz.2 λq hq=>by
   have:q.2∈xs.take i0:=by rw[<- hps,<- List.map_take];exact List.mem_map_of_mem hq
   have:=M0.1 hno q.2 this;simpa using this
  have e2:([(v0,x0)]:ae (ah×ae Int)).filter (λq=>!p q.2)=[]:=by
   rw[QT];simp[adw]
  rw[e1,e2,iE]
 have adx:(zs (i0+1)).length=i0:=by rw[hz0,gM];omega
 have hcells:ps.map (·.1)=(zs (i0+1)).map (·.1)++(ps.drop (zs (i0+1)).length).map (·.1):=by
  rw[adx,hz0,<- ek,si]
 refine go ?_;rw[hcells];refine di (λj:Nat=>xs.length - j) (λj=>[(6,iV (j:Int)),(5,iV ((zs j).length:Int))]) (λj=>[pt b (.cells (pre++((zs j).map (·.1)++(ps.drop (zs j).length).map (·.1))))]) (λ_=>[]) (λj=>i0+1<=j/\j<=xs.length) (i0+1) ⟨bI _,tf⟩ (hl:=?_) (hk:=tj) (body:=?_)
 .refine⟨rfl,?_,?_⟩
  .show Value.int .i64 (i0:Int)=iV ((zs (i0+1)).length:Int);rw[adx]
  .repeat (first|exact trivial|refine⟨rfl,?_⟩)
 rintro j ⟨hj1,hj2⟩;have hW:=hzl j;refine aC ?_ ?_<;>intro h2
 .have hq:ps[j]? =some (ps[j]'(tf)):=bY _;generalize hqe:ps[j]'(tf)=q at hq;obtain⟨vq,x⟩:=q;have Jd:xs[j]? =some x:=by rw[<- hps,dZ,hq];rfl
  have hget:(pre++((zs j).map (·.1)++(ps.drop (zs j).length).map (·.1)))[pre.length+j*1]? =some vq:=by
   rw[tO tf,tO zp,bC,dZ,rZ,show(zs j).length+(pre.length+j*1 - pre.length - (zs j).length)=j by omega,hq];rfl
  refine go ?_;refine fo (aj ai vq x) (λw hw=>hw (Hw ps) tg (vq,x) (aU hq)) ?_;refine gF ai vq x λaq cq eq=>?_;subst eq;refine rJ (b:=b) (o:=pre.length+j*1) (cs:=pre++((zs j).map (·.1)++(ps.drop (zs j).length).map (·.1))) (.slice aq x.length cq) hget ?_;refine gC (hp x (aU Jd) (.slice aq x.length cq)) λ_ _=>?_;refine go ?_;have hzs:zs (j+1)=zs j++(if p x=true then[]else[(.slice aq x.length cq,x)]):=by
   show(ps.take (j+1)).filter _=_;rw[bU hq,Q0];congr 1;rw[QT];cases p x<;>rfl
  cases hpx:p x with
  |true=>
   rw[hpx,if_pos rfl,iE]at hzs;refine go ?_;rw[<- hzs];exact aO (j+1) tf ⟨tf,tf⟩
  |false=>
   rw[hpx,if_neg tg]at hzs;refine go ?_;have hdrop:(ps.drop (zs j).length)=(ps[(zs j).length]'(tf))::ps.drop ((zs j).length+1):=qp tf;have hset:(pre++((zs j).map (·.1)++(ps.drop (zs j).length).map (·.1))).set (pre.length+(zs j).length*1) (.slice aq x.length cq)=pre++((zs (j+1)).map (·.1)++(ps.drop (zs (j+1)).length).map (·.1)):=by
    rw[Dr _ _ tf,Dr _ _ zp,bC,show pre.length+(zs j).length*1 - pre.length - (zs j).length=0 by omega,hdrop,kv,List.set_cons_zero,hzs,ek,fV];simp
   refine l9 (b:=b) (o:=pre.length+(zs j).length*1) (cs:=pre++((zs j).map (·.1)++(ps.drop (zs j).length).map (·.1))) (v:=.slice aq x.length cq) (cs':=pre++((zs (j+1)).map (·.1)++(ps.drop (zs (j+1)).length).map (·.1))) hset tx ?_;have arT:(zs (j+1)).length=(zs j).length+1:=by rw[hzs,fV];rfl
   refine go ?_;rw[show((zs j).length:Int)+1=((zs (j+1)).length:Int)by rw[arT];rfl];exact aO (j+1) tf ⟨tf,tf⟩
 obtain rfl:j=xs.length:=tf
 have hzn:(zs xs.length).length<xs.length:=by
  show((ps.take xs.length).filter _).length<_;rw[oQ tf,<- hpl];exact List.length_filter_lt_length_iff_exists.2 ⟨(v0,x0),aU hp0,by simp[adw]⟩
 have hys:(zs xs.length).map (·.2)=xs.filter λx=>!p x:=by
  show((ps.take xs.length).filter _).map _=_;rw[oQ tf,<- hps,List.filter_map];rfl
 generalize hze:zs xs.length=Z at *;refine go ?_;refine(cZ rfl rfl (TN (b:=b) (o:=pre.length) (f:=f) (m:=xs.length) (c:=xs.length) (lo:=Z.length) (hi:=xs.length) rfl hf Nat.one_pos (.inr ⟨_,rfl,rfl⟩) (.inl ⟨rfl,rfl⟩) tf (bI _))).h ?_;refine go ?_;have hzr:zeros [Value.slice none 0 0] (xs.length - Z.length)=List.replicate (xs.length - Z.length) (.slice none 0 0):=by
  induction xs.length - Z.length with
  |zero=>rfl
  |succ n ih=>rw[yT,<- ih];rfl
 have hov:jE (pre++(Z.map (·.1)++(ps.drop Z.length).map (·.1))) (pre.length+Z.length*1) (zeros [Value.slice none 0 0] (xs.length - Z.length))=some (pre++Z.map (·.1)++List.replicate (xs.length - Z.length) (.slice none 0 0)):=by
  have e1:(pre++Z.map (·.1)).length=pre.length+Z.length*1:=by rw[fV,bC];omega
  rw[<- iO,<- e1,hzr,Oy (by rw[Du,bC,uT];omega),List.drop_of_length_le (by rw[Du,bC,uT];omega),iE]
 refine alV hov tf ?_;refine go ?_;refine(cZ rfl rfl (TN (b:=b) (o:=pre.length) (f:=f) (m:=xs.length) (c:=xs.length) (lo:=0) (hi:=Z.length) rfl hf Nat.one_pos (.inl ⟨rfl,rfl⟩) (.inr ⟨_,rfl,rfl⟩) (bH _) tf)).h ?_;rw[Fv,Dm,Fu,Fu];refine gP b ?_;refine fo (Hw Z) (λw hw q hq=>hw (Hw ps) tg q (by
  have:q∈(ps.take xs.length).filter λq=>!p q.2:=by rw[<- hze]at hq;exact hq
  exact Ij (tT.1 this).1)) ?_
 refine fo (aj (ay ai) (.slice (some ⟨b,pre.length,some f⟩) Z.length xs.length) (Z.map (·.2))) (λw hw=>arQ (hw (dO b 0 (pre++Z.map (·.1)++List.replicate (xs.length - Z.length) (.slice none 0 0))) tg) (hw (Hw Z) tg) tf hf (λk q hk=>by
  have hkl:=(bJ.1 hk).1;rw[iO,tO tf,Nat.add_sub_cancel_left,pX (by rw[bC];exact hkl),dZ,hk];rfl)) ?_
 rw[hys];refine go ?_;exact gQ (.slice (some ⟨b,pre.length,some f⟩) Z.length xs.length) trivial
noncomputable def Bp(k:aZ):ae (ae Int):=open Classical in (rX k).filter λx=>decide (iQ k x (upTo' k.decl.symbols.length))
structure K4(k:aZ)(G:List (List Int))(cl:List Int)(e:Int):Prop where
 nk:¬dz k->e=180
 err:dz k->e=0\/e=2
 nil:e≠0->G=[]/\cl=[]
 grk:e=0->C8 k G cl
 Ql:e=0->∃l,oF k.grid.cells.length (Bp k) l l.length/\G.Perm l/\l.length<=4096
 ord:e=0->G.Pairwise λx y=>¬eT eB y x<0
structure arV where
 v1:Value
 v2:Value
 G:List (List Int)
 cl:List Int
 e:Int
def arW{P:Program}{args:ae ah}{K:Prop}[Decidable K](h:bG P fn args cap kl F (λb:Bool=>.bool (!b)) (λ_=>[]) (λ_=>[]) (λb=>b=true↔K)):bG P fn args cap kl F (λ_:Unit=>.bool (!decide K)) (λ_=>[]) (λ_=>[]) (λ_=>True):=λB w s=>
 .jP _ (h B w s) (by
  rintro r pm h' ⟨h1,w',b,h2,h3,h4,h5⟩;have e:b=decide K:=by
   cases b with
   |true=>exact(dQ (h5.1 rfl)).symm
   |false=>exact(aW λk=>by have:=h5.2 k;cases this).symm
  subst e;exact⟨h1,w',(),h2,h3,h4,trivial⟩)
variable{k:aZ}
def arX{q:ae Int}:∀i,q∈(kJ k i).2->q.length=k.grid.cells.length:=by
 intro i;unfold kJ;have key:∀(l:ae (ae (ae Int)×Nat)) (z:rW),(∀q∈z.2,q.length=k.grid.cells.length)->∀q∈(l.foldl (λz q=>if Dh q.2=true then mZ z (mY k.grid.cells.length q.1)else z) z).2,q.length=k.grid.cells.length:=by
  intro l;induction l with
  |nil=>intro z h;exact h
  |cons a l ih=>
   intro z h;rw[xC];refine ih _ λq hq=>?_;split at hq
   .rcases VM _ _ hq with hq|hq
    .exact h q hq
    .exact Qj hq
   .exact h q hq
 refine key _ _ (λq hq=>?_) q;rcases VM _ _ hq with hq|hq
 .cases hq
 .exact adb hq
def arY:∀q∈rX k,q.length=k.grid.cells.length:=λq hq=>arX _ hq
def arZ(hK:dz k):(rX k).length<=1000000000:=by
 have hLL:k.lists.length<=12:=by
  exact qt
 have hrg:∀r∈k.decl.regions,wU (aT k.decl) r.lists:=λr hr=>(hK.typ.zN r hr).1.2;have hlf:∀L∈k.lists,L.length<=2048:=λL hL=>Uu hK.bV hrg L (by rw[<- hK.lists];exact hL);have key:∀(l:ae (ae (ae Int)×Nat)) (z:rW),(∀a∈l,a.1.length<=2048)->(l.foldl (λz q=>if Dh q.2=true then mZ z (mY k.grid.cells.length q.1)else z) z).2.length<=z.2.length+l.length*4194304:=by
  intro l;induction l with
  |nil=>intro z _;exact Nat.le_add_right _ _
  |cons a l ih=>
   intro z h;rw[xC];have h1:=h a (fF ..);have h2:=adm (n:=k.grid.cells.length) (lists:=a.1);have h3:a.1.length*a.1.length<=2048*2048:=Nat.mul_le_mul h1 h1;have h4:=Dg (mY k.grid.cells.length a.1) z;refine lV (ih _ λb hb=>h b (iw _ hb)) ?_;rw[uS];split<;>omega
 unfold rX kJ;refine lV (key _ _ λa ha=>?_) ?_
 .have:=Ij ha;rw[xG]at this;obtain⟨i,hi⟩:=this;rw[Q8]at hi;obtain⟨L,hL,e⟩:=lq.1 hi;rw[<- e];exact hlf L (aU hL)
 .have h1:=Dg (oN k.grid) ([],[]);have h2:=ade k.grid;simp only[Bw]at h1;rw[gM,List.length_zipIdx];omega
def adz{vh vs vr vc vu gh gc vn vl:ah}(hS:rA k):
 bG Tryz.prog (.func 13) [.agg ⟨og k vh vs vr vc vu gh gc vn vl⟩] [] [] (j6 k vh vs vr vc vu gh gc vn vl []) (λy:arV=>.tuple ⟨[.agg ⟨[y.v1,y.v2]⟩,iV y.e]⟩) (λ_=>[]) (λy=>[aj (ay ai) y.v1 y.G,aj ai y.v2 y.cl]) (λy=>K4 k y.G y.cl y.e):=by
 refine gB 13 λB w0=>?_;dsimp only[j6];refine gF ai gc k.grid.cells λag cg eg=>?_;subst eg;refine gF fG vs k.decl.symbols λrz cs1 es1=>?_;subst es1;by_cases hK:dz k
 rotate_left
 .refine go ?_;intro b1 b2;refine gC (arv (k:=k) hS hK) λ_ _=>?_;refine go ?_;refine fo (aj (ay ai) (.slice none 0 0) ([]:ae (ae Int))) (λw _=>.inl ⟨rfl,none,0,rfl,trivial⟩) ?_;refine fo (aj ai (.slice none 0 0) ([]:ae Int)) (λw _=>.inl ⟨rfl,none,0,rfl,trivial⟩) ?_;exact gQ ⟨.slice none 0 0,.slice none 0 0,[],[],180⟩ ⟨λ_=>rfl,λh=>absurd h hK,λ_=>⟨rfl,rfl⟩,(λh=>by cases h),(λh=>by cases h),(λh=>by cases h)⟩
 refine go ?_;intro b1 b2;refine gC (aru (k:=k) hS hK) λc0 _=>?_;generalize gv (ay ai).n c0 (rX k).length=ar0;refine go ?_;intro b6;refine go ?_;refine gP b1 ?_;refine gP b6 ?_;have hg:eF k.grid:=by rw[hK.grid];exact hK.bV
 have hcl:=hg.len;have hm:=hK.typ.lim.s1;have hcan:∀p∈rX k,p.length=k.grid.cells.length:=arY;have hcf:=arZ hK
 classical
 refine fD (arS (fn:=.func 38) (first:=[]) (cap:=[ptr' b1,ptr' b6]) (F1:=dO b1 0 (og k vh (.slice rz k.decl.symbols.length cs1) vr vc vu gh (.slice ag k.grid.cells.length cg) vn vl)::dO b6 0 [iV (k.decl.symbols.length:Int)]::j6 k vh (.slice rz k.decl.symbols.length cs1) vr vc vu gh (.slice ag k.grid.cells.length cg) vn vl []) (p:=λx=>!decide (iQ k x (upTo' k.decl.symbols.length))) (v:=ar0) (xs:=rX k) tf (λx hx=>λv=>(arW (arx (b1:=b1) (b2:=b6) (k:=k) hK x (by have:=hcan x hx;omega) v)))) (next:=λvd _=>?_) (hF:=by dsimp only[j6];repeat (first|exact Sub.nil|(apply Sub.cons;(focus ((repeat (first|with_reducible exact fF .. |with_reducible apply iw));first|done|fail)))));have hgf:(rX k).filter (λx=>!!decide (iQ k x (upTo' k.decl.symbols.length)))=Bp k:=by
  unfold Bp;simp only[Bool.not_not]
 rw[hgf];have hgl:(Bp k).length<=(rX k).length:=Ik ..;have hgm:∀x∈Bp k,iQ k x (upTo' k.decl.symbols.length):=λx hx=>iN (tT.1 hx).2;refine gC (arN (n:=k.grid.cells.length) (v:=vd) (gy:=Bp k) hcl tf (λx hx=>by have:=(hgm x hx).pc.len;omega)) λy hy=>?_;obtain⟨vG,G,e⟩:=y;dsimp only at hy⊢;refine gZ (gD (E:=ay ai) (v:=vG) (xs:=G)) ?_;refine gF (ay ai) vG G λaG cG eG=>?_;subst eG;refine aC ?_ ?_<;>intro h1
 .have he2:e=2:=(hy.err h1).2 λg hg=>(hgm g hg).pc;refine go ?_;refine fo (aj (ay ai) (.slice none 0 0) ([]:ae (ae Int))) (λw _=>.inl ⟨rfl,none,0,rfl,trivial⟩) ?_;refine fo (aj ai (.slice none 0 0) ([]:ae Int)) (λw _=>.inl ⟨rfl,none,0,rfl,trivial⟩) ?_;exact gQ ⟨.slice none 0 0,.slice none 0 0,[],[],e⟩ ⟨λh=>absurd hK h,λ_=>.inr he2,λ_=>⟨rfl,rfl⟩,λh=>absurd h h1,λh=>absurd h h1,λh=>absurd h h1⟩
 have hz:e=0:=iX.1 h1;subst hz;obtain⟨l,hC,hperm,hlm,tq⟩:=hy.ok rfl;refine go ?_;refine gK ai ?_;refine di (λy:Nat×ah×ae Int=>k.decl.symbols.length - y.1) (λy=>[(44,iV (y.1:Int))]) (λy=>[pt b2 (.cells [.slice aG G.length cG,y.2.1]),ap ai y.2.1 y.2.2]) (λ_=>[]) (λy=>y.1<=k.decl.symbols.length/\y.2.2.length=y.1/\∀u:Nat,u<y.1->∃i:Nat,y.2.2[u]? =some (i:Int)/\Hg k u i) (0,.slice none 0 0,[]) ⟨bH _,rfl,λu hu=>absurd hu (Dx _)⟩ (hk:=tj) (body:=?_);rintro⟨j,Qm,cl⟩ ⟨hj,C9,hcls⟩;dsimp only at hj C9 hcls⊢;refine aC ?_ ?_<;>intro h2
 rotate_left
 .obtain rfl:j=k.decl.symbols.length:=by omega
  refine gZ (gD (E:=ai) (v:=Qm) (xs:=cl)) ?_;refine go ?_;exact gQ ⟨.slice aG G.length cG,Qm,G,cl,0⟩ ⟨λh=>absurd hK h,λ_=>.inl rfl,λh=>absurd rfl h,λ_=>ap4 hK hgm hC hperm C9 hcls,λ_=>⟨l,hC,hperm,hlm⟩,λ_=>tq⟩
 refine gN j 9 (λi=>i<=j/\∀u:Nat,u<i->¬nO k (u:Int) (j:Int)) ⟨bH _,λu hu=>absurd hu (Dx _)⟩ ?_;rintro i ⟨hi,hno⟩;refine aC ?_ ?_<;>intro h3
 rotate_left
 .have hij:j=i:=by omega
  subst hij;have hL:Hg k j j:=⟨bI _,nO.refl _ _,hno⟩
  refine go ?_;intro Vl;refine fJ ai (v:=Qm) (xs:=cl) (j:Int) () tf (next:=λv2=>?_);refine go ?_;refine aO (j+1,.slice v2 (cl.length+1) (cl.length+1),cl++[(j:Int)]) DB ⟨by show j+1<=_;omega,by show(cl++[(j:Int)]).length=j+1;rw[fV,C9];rfl,λu hu=>?_⟩;show∃w:Nat,(cl++[(j:Int)])[u]? =some (w:Int)/\Hg k u w;by_cases hu2:u<j
  .exact po
  .have hu3:u=j:=by have:u<j+1:=hu;omega
   rw[hu3];exact⟨j,by rw[tO tf,C9,tQ];rfl,hL⟩
 refine gC (VN (n:=k.decl.symbols.length) tf) λbp _=>?_;refine go ?_;have oG:=jH k.decl.symbols.length;refine l9 (b:=bp) (o:=0+i*1) (cs:=(upTo' k.decl.symbols.length).map iV) (v:=iV (j:Int)) (cs':=((upTo' k.decl.symbols.length).set i (j:Int)).map iV) (by rw[show 0+i*1=i by omega,wm]) (by rw[bC,oG];omega) ?_;refine go ?_;refine l9 (b:=bp) (o:=0+j*1) (cs:=((upTo' k.decl.symbols.length).set i (j:Int)).map iV) (v:=iV (i:Int)) (cs':=(yL k.decl.symbols.length i j).map iV) (by rw[show 0+j*1=j by omega,<- wm];rfl) (by rw[bC,oU,oG];omega) ?_;have hxl:(yL k.decl.symbols.length i j).length=k.decl.symbols.length:=by unfold yL;rw[oU,oU,oG]
 refine gZ (zm (b:=bp) (f:=0) (c:=k.decl.symbols.length) (xs:=yL k.decl.symbols.length i j) (hc:=tf)) ?_;rw[hxl];refine gC (VN (n:=k.grid.cells.length) tf) λbq _=>?_;refine gZ (VO (bm:=bq) (n:=k.grid.cells.length)) ?_;refine gC (VF (k:=k) (s:=upTo' k.grid.cells.length) (t:=yL k.decl.symbols.length i j) (sc:=.slice (some ⟨bq,0,some 0⟩) k.grid.cells.length k.grid.cells.length) (st:=.slice (some ⟨bp,0,some 0⟩) k.decl.symbols.length k.decl.symbols.length) hK ur tf) λb hb=>?_;have hkx:=apW hK (i:=i) (j:=j) tf tf;refine go ?_;cases b with
 |true=>
  have hL:Hg k j i:=⟨hi,hkx.1 (hb.1 rfl),hno⟩
  refine go ?_;intro Vl;refine fJ ai (v:=Qm) (xs:=cl) (i:Int) () tf (next:=λv2=>?_);refine go ?_;refine aO (j+1,.slice v2 (cl.length+1) (cl.length+1),cl++[(i:Int)]) DB ⟨by show j+1<=_;omega,by show(cl++[(i:Int)]).length=j+1;rw[fV,C9];rfl,λu hu=>?_⟩;show∃w:Nat,(cl++[(i:Int)])[u]? =some (w:Int)/\Hg k u w;by_cases hu2:u<j
  .exact po
  .have hu3:u=j:=by have:u<j+1:=hu;omega
   rw[hu3];exact⟨i,by rw[tO tf,C9,tQ];rfl,hL⟩
 |false=>
  have hn2:¬nO k (i:Int) (j:Int):=λh=>by have:=hb.2 (hkx.2 h);cases this
  refine go ?_;exact aO (i+1) tf ⟨tf,λu hu=>by
   by_cases e:u=i
   .rw[e];exact hn2
   .exact hno u tf⟩
