/- Part. -/
import Derived.Test.YtignbinlipkmfaaGreatDoorLibAAR
import Derived.Test.YtignbinlipkmfaaGreatDoorLibRR
set_option linter.all false
set_option maxRecDepth 10000
set_option maxHeartbeats 4000000
namespace Go.Proofs.YtignbinlipkmfaaGreatDoor
open Go.Ideal Kd Canon
variable{a b:Int}
def atz{P:Program}{ρ:az->ah}{x y:az}{t:aF}(hx:ρ x=iV a)(hy:ρ y=iV b):Pu P ρ (.bin .add t x y) (iV (IntKind.i64.wrap (a+b))):=λh=>by
 simp only[aK.run,hx,hy];rw[Ap (v:=iV (IntKind.i64.wrap (a+b)))];simp only[sw,Ru];rw[Np]
variable{k:aZ}
def atA{vh vs vr vc vu gh gc vn vl:ah}(hB:He k):fC Tryz.prog 10 [.agg ⟨og k vh vs vr vc vu gh gc vn vl⟩] (j6 k vh vs vr vc vu gh gc vn vl []) (λb:Bool=>.bool b) (λb=>b=true->Wi k/\k.grid.cells.length<=16/\k.decl.symbols.length<=4):=by
 obtain⟨l1,l2⟩:=hB.lists;have hcb:=hB.cells;have hsb:=hB.dK;refine gB 10 λB w0=>?_;dsimp only[j6];refine gF (ay (ay ai)) vl k.lists λal cl el=>?_;subst el;refine gF ai gc k.grid.cells λag cg eg=>?_;subst eg;refine gF fG vs k.decl.symbols λrz cs1 es1=>?_;subst es1;refine go ?_;intro b1;refine gL (λx:Nat×Int=>k.lists.length - x.1) (λx=>[(4,iV (x.1:Int)),(3,iV x.2)]) (λ_=>True) (8,0) trivial ?_;rintro⟨i,n⟩ -;dsimp only;refine aC ?_ ?_<;>intro h2
 .refine gX (ay (ay ai)) (xs:=k.lists) (k:=i) λ_ _ x (vx:ah) hx=>?_;have hxl:=l2 x (aU hx);refine gF (ay ai) vx x λax cx ex=>?_;subst ex;refine go ?_;refine(cZ rfl rfl (atz rfl rfl)).h ?_;refine go ?_;exact aO (i+1,IntKind.i64.wrap (n+(x.length:Int))) DG trivial
 refine gC (aty (k:=k) hB) λb hb=>?_;cases b with
 |false=>
  exact cH
 |true=>
 have hf:=hb rfl;refine gH ?_ ?_<;>intro t1
 .exact cH
 refine gH ?_ ?_<;>intro t2
 .exact cH
 refine go ?_;exact gQ (decide (n<=12)) (λ_=>⟨hf,tf,tf⟩)
structure aw7(G:List (List Int))(cl s t:List Int):Prop where
 p:bQ cl.length t
 c:∀(i:Nat) x,t[i]? =some x->aV cl (i:Int)=aV cl x
 m:s∈G
variable{s t:ae Int}
def atB{sc st:ah}:fC Tryz.prog 17 [.agg ⟨[sc,st]⟩] [aj ai sc s,aj ai st t] (λb:Bool=>.bool b) (λb=>b=true->s.length<=40/\t.length<=40):=by
 refine gB 17 λB w0=>?_;refine go ?_;intro b1;refine gH ?_ ?_<;>intro h1
 .exact cH
 refine go ?_;refine gQ (decide ((t.length:Int)<=40)) (λh=>?_);have h:=iN h;exact⟨tf,tf⟩
def atC(n:Int):∃m:Nat,IntKind.u64.wrap n=(m:Int):=⟨(n%18446744073709551616).toNat,by
 show n%18446744073709551616=_;omega⟩
variable{va vb:ah}
def adW{xs ys:ae Int}(hl:xs.length<2^63)(hl2:ys.length<2^63):dF Tryz.prog 56 [va,vb] [aj ai va xs,aj ai vb ys] (iV (eT eB xs ys)):=by
 refine gB 56 λB w0=>?_;refine gF ai va xs λaa ca ea=>?_;subst ea;refine gF ai vb ys λab cb eb=>?_;subst eb;refine gN xs.length 5 (λk=>k<=xs.length/\k<=ys.length/\eT eB xs ys=eT eB (xs.drop k) (ys.drop k)) ⟨bH _,bH _,rfl⟩ ?_;rintro k ⟨hk,hk2,tq⟩;refine gH ?_ ?_<;>intro h1
 .exact dl
 refine aC ?_ ?_<;>intro h2
 .refine go ?_;intro _ _ x hx;refine go ?_;intro _ _ y hy;refine go ?_;have hxy:=tq;rw[drop_cons hx,drop_cons hy,eT]at hxy;refine kW rfl ?_ ?_<;>intro h3
  .refine aP ?_;have e:eB x y= -1:=by unfold eB;rw[if_pos h3]
   rw[hxy,e];rfl
  refine go ?_;intro _ _ x2 hx2;rw[hx]at hx2;obtain rfl:x=x2:=Option.some.inj hx2;refine go ?_;intro _ _ y2 hy2;rw[hy]at hy2;obtain rfl:y=y2:=Option.some.inj hy2;refine aC ?_ ?_<;>intro h4
  .refine aP ?_;have e:eB x y=1:=by unfold eB;rw[if_neg h3,if_pos tf]
   rw[hxy,e];rfl
  refine go ?_;refine aO (k+1) tf ⟨tf,tf,?_⟩;have e:eB x y=0:=by unfold eB;rw[if_neg h3,if_neg tf]
  rw[hxy,e,if_neg tg]
 exact dl
structure Qv(xs:List (List Int))(p:List Int)(n:Nat):Prop where
 le:n<=xs.length
 lo:∀(i:Nat) x,i<n->xs[i]? =some x->eT eB x p<0
 hi:∀(i:Nat) x,n<=i->xs[i]? =some x->¬eT eB x p<0
def Wj(xs:ae (ae Int)):Prop:=xs.Pairwise λx y=>¬eT eB y x<0
variable{xs:ae (ae Int)}
def Wl(h:Wj xs){i j:Nat}{x y:ae Int}(hij:i<j)(hx:xs[i]? =some x)(hy:xs[j]? =some y):¬eT eB y x<0:=by
 obtain⟨h1,rfl⟩:=bJ.1 hx;obtain⟨h2,rfl⟩:=bJ.1 hy;exact xI.1 h i j h1 h2 hij
def adX{x y z:ae Int}(h1:¬eT eB y x<0)(h2:eT eB y z<0):eT eB x z<0:=by
 have o:=x9 zk;by_cases e:x=y
 .rw[e];exact h2
 .have h3:eT eB x y<0:=by
   rw[o.neg x y];have:eT eB y x≠0:=λq=>e ((o.zero y x).1 q).symm;omega
  exact o.trans _ _ _ h3 h2
variable{n:Nat}{p:ae Int}
def Qv.mem(h:Qv xs p n)(hs:Wj xs):p∈xs↔xs[n]? =some p:=by
 have o:=x9 zk;constructor
 .intro hp;obtain⟨j,hj⟩:=iI hp;have hjl:=(bJ.1 hj).1;have hj0:eT eB p p=0:=(o.zero p p).2 rfl;have hnj:n<=j:=Classical.byContradiction λq=>by have:=h.lo j p tf hj;omega
  have hn:n<xs.length:=tf
  have hx:xs[n]? =some xs[n]:=bY hn;have h1:=h.hi n _ (bI _) hx;by_cases e:n=j
  .rw[e];exact hj
  .have h2:=Wl hs (show n<j by omega) hx hj;have:xs[n]=p:=by
    refine(o.zero _ _).1 ?_;have h3:=o.neg p xs[n];have h4:¬0<eT eB xs[n] p:=λq=>h2 (h3.2 q);omega
   rw[hx,this]
 .exact aU
def atD(hs:Wj xs)(hl:xs.length<=1000000)(hls:∀x∈xs,x.length<2^63)(hp:p.length<2^63):
 fC Tryz.prog 27 [va,vb] [aj (ay ai) va xs,aj ai vb p] (λy:Nat×Bool=>.tuple ⟨[iV (y.1:Int),.bool y.2]⟩) (λy=>Qv xs p y.1/\(y.2=true↔p∈xs)):=by
 have o:=x9 zk;refine gB 27 λB w0=>?_;refine gF (ay ai) va xs λaa ca ea=>?_;subst ea;refine gL (λy:Nat×Nat=>y.2 - y.1) (λy=>[(7,iV (y.2:Int)),(6,iV (y.1:Int))]) (λy=>y.1<=y.2/\y.2<=xs.length/\(∀(i:Nat) x,i<y.1->xs[i]? =some x->eT eB x p<0)/\∀(i:Nat) x,y.2<=i->xs[i]? =some x->¬eT eB x p<0) (0,xs.length) ⟨bH _,bI _,λi x hi=>absurd hi (Dx _),λi x hi hx=>by have:=(bJ.1 hx).1;omega⟩ ?_;rintro⟨lo,hi⟩ ⟨h1,h2,hlo,hhi⟩;dsimp only at h1 h2 hlo hhi⊢;refine aC ?_ ?_<;>intro h3
 .refine go ?_;rw[show(lo:Int)+(hi:Int)=((lo+hi:Nat):Int)by omega];have hq:((lo+hi:Nat):Int).tdiv 2=(((lo+hi)/2:Nat):Int):=(Int.ofNat_tdiv (lo+hi) 2).symm;refine(cZ rfl rfl (D9 rfl rfl tr (by rw[hq];omega) (by rw[hq];omega))).h ?_;rw[hq];have hm1:lo<=(lo+hi)/2:=by omega
  have hm2:(lo+hi)/2<hi:=tf
  generalize(lo+hi)/2=m at *;refine gX (ay ai) (xs:=xs) (k:=m) λ_ _ x (vx:ah) hx=>?_;have hxm:=hls x (aU hx);refine gC (adW (xs:=x) (ys:=p) hxm hp) λ_ _=>?_;refine aC ?_ ?_<;>intro h4
  .refine go ?_;exact aO (m+1,hi) (by show hi - (m+1)<hi - lo;omega) ⟨by show m+1<=hi;omega,h2,λi y hi' hy=>by
    have hi':i<m+1:=hi';by_cases e:i=m
    .subst e;rw[hx]at hy;cases hy;exact h4
    .exact adX (Wl hs (show i<m by omega) hy hx) h4,hhi⟩
  .refine go ?_;exact aO (lo,m) (by show m - lo<hi - lo;omega) ⟨hm1,by show m<=_;omega,hlo,λi y hi' hy q=>by
    have hi':m<=i:=hi';by_cases e:i=m
    .subst e;rw[hx]at hy;cases hy;exact h4 q
    .exact h4 (adX (Wl hs (show m<i by omega) hx hy) q)⟩
 obtain rfl:lo=hi:=tf
 have hF:Qv xs p lo:=⟨h2,hlo,hhi⟩
 have hm:=hF.mem hs;refine gH ?_ ?_<;>intro h5
 .refine go ?_;exact gQ (lo,false) ⟨hF,(λh=>by cases h),λq=>by
   have:=(bJ.1 (hm.1 q)).1;exact absurd tf h5⟩
 refine gX (ay ai) (xs:=xs) (k:=lo) λ_ _ x (vx:ah) hx=>?_;have hxm:=hls x (aU hx);refine gC (adW (xs:=x) (ys:=p) hxm hp) λ_ _=>?_;refine go ?_;refine gQ (lo,decide (eT eB x p=0)) ⟨hF,?_⟩;show decide _=true↔_;rw[qL,o.zero,hm,hx];exact⟨λe=>by rw[e],λe=>Option.some.inj e⟩
def qo(d:bK)(i:Nat):bK:={d with rules:=d.rules.take i++d.rules.drop (i+1)}
def nP(k:aZ)(i:Nat):aZ:={k with decl:=qo k.decl i}
variable{i:Nat}{d:bK}
def HY:∀r∈(qo d i).rules,r∈d.rules:=λr hr=>by
 rcases eP.1 hr with h|h
 .exact Ij h
 .exact Ii h
def adY{rs:ae bE}:jI rs=[]↔∀r∈rs,(fK r.kind).read=true:=by
 unfold jI;rw[afU];constructor
 .intro h r hr;obtain⟨i,hi⟩:=iI hr;have:=h (r,i) (aU (i:=i) (by rw[Q8,hi];simp));by_cases e:(fK r.kind).read=true
  .exact e
  .rw[if_neg e]at this;cases this
 .rintro h ⟨r,i⟩ hp;have:r∈rs:=by
   obtain⟨j,hj⟩:=iI hp;rw[Q8]at hj;obtain⟨x,hx,e⟩:=lq.1 hj;cases e;exact aU hx
  rw[if_pos (h r this)]
def atE{α:Type}{l:ae α}{x:α}(h:l[i]? =some x):l=l.take i++x::l.drop (i+1):=by
 have hi:=(bJ.1 h).1;have hd:l.drop i=x::l.drop (i+1):=by
  rw[qp hi];congr 1;rw[bY hi]at h;exact Option.some.inj h
 rw[<- hd,si]
variable{r:bE}
def adZ(h:d.rules[i]? =some r):∃A B,d.rules=A++r::B/\(qo d i).rules=A++B:=⟨d.rules.take i,d.rules.drop (i+1),atE h,rfl⟩
def atF(h:d.rules[i]? =some r)(hs:Kd.bO d=d):Kd.bO (qo d i)=qo d i:=by
 have e1:d.aQ.map (mO (cO d))=d.aQ:=congrArg bK.aQ hs;have e2:d.rules.map (nL (bX d) (cO d) (dN d))=d.rules:=congrArg bK.rules hs;have e3:(qo d i).rules.map (nL (bX d) (cO d) (dN d))=(qo d i).rules:=by
  show(d.rules.take i++d.rules.drop (i+1)).map _=d.rules.take i++d.rules.drop (i+1);rw[ek,List.map_take,List.map_drop,e2]
 show{qo d i with aQ:=d.aQ.map (mO (cO d)),rules:=(qo d i).rules.map (nL (bX d) (cO d) (dN d))}=qo d i;rw[e1,e3];rfl
def ad1(h:d.rules[i]? =some r)(hc:r.aS<0)(hT:EO d):EO (qo d i):=by
 obtain⟨A,B,e1,e2⟩:=adZ h;have hl:(qo d i).rules.length<=d.rules.length:=by rw[e1,e2];simp
 refine⟨⟨hT.lim.s0,hT.lim.s1,hT.lim.r,hT.lim.c,lV hl hT.lim.u⟩,⟨hT.rs.dK,hT.rs.TY,hT.rs.TZ,hT.rs.T9,hT.rs.OV,?_,λr hr=>hT.rs.pE r (HY r hr)⟩,atF h hT.same,hT.PO,hT.EP,hT.zN,⟨hT.form.dK,λr hr=>hT.form.lH r (HY r hr),λj c hj=>?_⟩,?_⟩
 .have:=hT.rs.Ua;unfold pz at this⊢;rw[e1]at this;rw[e2];rw[ek,kv]at this;rw[ek];exact this.sublist (List.Sublist.append (List.Sublist.refl _) (List.sublist_cons_self _ _))
 .obtain⟨h1,h2⟩:=hT.form.jS j c hj;refine⟨?_,h2⟩;rw[e1,ek,kv,List.count_append,List.count_cons]at h1;rw[e2,ek,List.count_append];have:¬(r.aS==(j:Int))=true:=by rw[beq_iff_eq];omega
  rw[if_neg this]at h1;omega
 .exact adY.2 λr hr=>adY.1 hT.read r (HY r hr)
def ad3(hK:dz k)(h:k.decl.rules[i]? =some r)(hc:r.aS<0):G7 (qo k.decl i):=by
 have hT:=ad1 h hc hK.typ;exact⟨hT.rs,by rw[hT.same];exact hT⟩
def ad4(hK:dz k)(h:k.decl.rules[i]? =some r)(hc:r.aS<0):lS (Kd.bO (qo k.decl i))=nP k i:=by
 have hT:=ad1 h hc hK.typ;rw[hT.same];have e1:=hK.grid;have e2:=hK.aR;have e3:=hK.lists;show aZ.mk (qo k.decl i) (aT k.decl) (bR (aT k.decl)) (mR k.decl)=aZ.mk (qo k.decl i) k.grid k.aR k.lists;rw[e1,e2,e3]
def atG(hK:dz k)(h:k.decl.rules[i]? =some r)(hc:r.aS<0):dz (nP k i):=⟨ad3 hK h hc,(ad4 hK h hc).symm⟩
def ad5(h:iQ k s t):iQ (nP k i) s t:=⟨h.pc,h.ps,λr hr=>h.pE r (HY r hr)⟩
def atH(h:nO k a b):nO (nP k i) a b:=λr hr=>h r (HY r hr)
def atI:∀g∈Bp k,g∈Bp (nP k i):=λg hg=>by
 classical
 unfold Bp at hg⊢;rw[tT]at hg⊢;exact⟨hg.1,dQ (ad5 (iN hg.2))⟩
def atJ{gy ad6 l l2:ae (ae Int)}(h:oF n gy l l.length)(h2:oF n ad6 l2 l2.length)(hg:∀g∈gy,g∈ad6):∀p∈l,p∈l2:=
 h.all (P:=λp=>p∈l2) (aU h2.first) λg hgm q _ hq=>by
  obtain⟨j,hj⟩:=iI hq;exact h2.done j q (bJ.1 hj).1 hj g (hg g hgm)
structure ad7(n:Nat)(G H:List (List Int)):Prop where
 sub:∀p∈G,p∈H
 mod:H.length%G.length=0
variable{G H:ae (ae Int)}{cl lc:ae Int}
def atL{e e2:Int}(h:K4 k G cl e)(h2:K4 (nP k i) H lc e2)(he:e=0)(he2:e2=0):ad7 k.grid.cells.length G H:=by
 obtain⟨l,hC,hp,_⟩:=h.Ql he;obtain⟨m,hD,hq,_⟩:=h2.Ql he2;have hs:=atJ hC hD atI;have NG:=anp hC.CO hD.CO hC.nd hD.nd hs;exact⟨λp hpm=>hq.mem_iff.2 (hs p (hp.mem_iff.1 hpm)),by rw[hp.length_eq,hq.length_eq];exact NG⟩
def atN(h:C8 k G cl)(h2:C8 (nP k i) H lc){a b:Nat}(ha:a<k.decl.symbols.length)(hb:b<k.decl.symbols.length)(e:aV cl (a:Int)=aV cl (b:Int)):aV lc (a:Int)=aV lc (b:Int):=
 (h2.CJ.same (a:=a) (b:=b) ha hb).2 (atH ((h.CJ.same ha hb).1 e))
