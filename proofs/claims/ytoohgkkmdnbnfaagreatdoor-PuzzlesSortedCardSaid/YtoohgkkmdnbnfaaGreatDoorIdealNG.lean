/-
  The ideal machine, 66: functions that may panic; deferred functions that recover.
-/
import Derived.Test.YtoohgkkmdnbnfaaGreatDoorIdealMG
import Derived.Sort.Row
import Derived.Sort.Grow
import Derived.Laws.StructEq
set_option linter.all false
namespace Go.Ideal
variable {P:Program}
section
variable {B:List Nat} {w0:Wd} {kl kl' aQ:List OA} {F:List ay} {K:KO} {ds:List Tmp} {rest:List aC} {n:Nat} {l:List (Nat×Value)} {D:List Deferred} {pm:Option FrameMode} {ro:Option Nat} {d:Nat} {g:Option (Tmp×Bool)}
variable {cf:cu} {Kr:fF->IH->Prop}
end
end Go.Ideal
namespace Go.Ideal
variable {P:Program}
theorem ET{α β:Type}(f:α->β)(hf:∀a b,f a=f b->a=b){l1 l2:List α}(h:(l1.map f).Perm (l2.map f)):l1.Perm l2:=by
 classical
 rw[List.perm_iff_count];intro a;have:=h.count_eq (f a);have key:∀l:List α,(l.map f).count (f a)=l.count a:=by
  intro l;induction l with
  |nil=>rfl
  |cons x l ih=>
   rw[jh,List.count_cons,List.count_cons,ih];by_cases e:x=a
   ·subst e;simp
   ·have:¬f x=f a:=λh=>e (hf _ _ h);simp[e,this]
 rw[key,key]at this;exact this
theorem EU{α β:Type}{f:α->β}:∀{l:List α},(l.map f).Nodup->∀{a b:α},a∈l->b∈l->f a=f b->a=b
 |[],_,a,b,ha,_,_=>by cases ha
 |x::l,h,a,b,ha,hb,e=>by
  rw[jh,pF]at h;obtain⟨hx,hl⟩:=h;rcases aR.1 ha with h1|ha<;>rcases aR.1 hb with h2|hb
  ·rw[h1,h2]
  ·rw[<- h1,e]at hx;exact absurd (List.mem_map_of_mem hb) hx
  ·rw[<- h2,<- e]at hx;exact absurd (List.mem_map_of_mem ha) hx
  ·exact EU hl ha hb e
def EW{α:Type}[DecidableEq α](a:α):List (α×Value)->Nat->Option (Nat×Value)
 |[],_=>none
 |(b,v)::l,i=>if a=b then some (i,v)else EW a l (i+1)
def qG{α:Type}(bM:α->Value)(aW:List (α×Value))(es:List MapEntry):Prop:=es.map (λe=>(e.key,e.val))=aW.map λp=>(bM p.1,p.2)
structure Q4(P:Program)(kt:TypeId){α:Type}[DecidableEq α](bM:α->Value):Prop where
 Q5:∀a,kJ P kt (bM a)=true
 find:∀a aW es,qG bM aW es->mV P kt (bM a) es=some (EW a aW 0)
 same:∀a,Instr.sameBits 10000 (bM a) (bM a)=true
structure xe{α:Type}(bM:α->Value)(aW:List (α×Value))(es:List MapEntry)(clock:Nat):Prop where
 tN:qG bM aW es
 lt:∀e∈es,e.born<clock
 nd:(es.map (·.born)).Nodup
 keys:(aW.map (·.1)).Nodup
def xg{α:Type}(bM:α->Value)(b:Nat)(aW:List (α×Value)):ay:=⟨λw=>w.z b/\∃es clock,w.h.get b=some (.map es clock)/\xe bM aW es clock,λa ⟨h1,es,clock,h2,h3⟩=>⟨a.z b h1,es,clock,by rw[a.get b h1];exact h2,h3⟩⟩
section
variable {B:List Nat} {w0:Wd} {kl kl' aQ:List OA} {F:List ay} {K:KO} {ds:List Tmp} {rest:List aC} {n:Nat} {l:List (Nat×Value)} {D:List Deferred} {pm:Option FrameMode} {ro:Option Nat} {d:Nat} {g:Option (Tmp×Bool)}
variable {α:Type} [DecidableEq α] {bM:α->Value}
theorem EX{aW:List (α×Value)}{es:List MapEntry}{clock:Nat}(h:xe bM aW es clock):es.length=aW.length:=by
 have:=congrArg List.length h.tN;simpa using this
def qH{α:Type}(bM:α->Value)(r b:Nat)(aW dZ:List (α×Value)):OA:=⟨λw S=>S=[r]/\∃es clock seen last,w.h.get b=some (.map es clock)/\w.z b/\xe bM aW es clock/\w.h.get r=some (.mapIter (some b) clock seen last)/\last=clock/\
 (∃ve rem:List MapEntry,qG bM dZ ve/\ve.map (·.born)=seen/\(ve++rem).Perm es),
 λa h ⟨h1,es,clock,seen,last,h2,h3,h4,h5,h6,h7⟩=>⟨h1,es,clock,seen,last,by rw[a.get b h3];exact h2,a.z b h3,h4,by rw[h r (by rw[h1];exact bV.2 rfl)];exact h5,h6,h7⟩⟩
theorem Nh{m:Operand}{b:Nat}{aW:List (α×Value)}
 (next:∀r,R (λh=>aj P ds rest (act n ((d,.pointer (some ⟨r,0,none⟩))::l) D pm ro) h K) B w0 (qH bM r b aW []::kl) F)
 (hm:ev l m=.map (some b):=by rfl) (hf:xg bM b aW∈F:=by exact mo) (hn:Nat.blt d n=true:=by rfl) (hg:aT l g=true:=by rfl):
 R (λh=>aj P ds (⟨⟨some d,g,.rangeMap m⟩,[]⟩::rest) (act n l D pm ro) h K) B w0 kl F:=λw s=>by
 obtain⟨hz,es,clock,h1,h2⟩:=s.facts _ hf;refine fJ hn hg (h':=w.h.new (.mapIter (some b) clock [] clock)) (by simp only[ai.run,hm,h1]) (next w.h.next (w.new _) ?_);have s1:=s.new (.mapIter (some b) clock [] clock);obtain⟨hz',es',clock',h1',h2'⟩:=s1.facts _ hf;refine s1.oM λS hp=>⟨hp.1,es',clock',[],clock,h1',hz',h2',?_,?_,[],es',rfl,rfl,.refl _⟩
 ·have:clock'=clock:=by
   have e:(w.new (.mapIter (some b) clock [] clock)).h.get b=w.h.get b:=by
    show(w.h.new _).get b=_;rw[IH.bT,if_neg (by have:=w.eH b hz;omega)]
   rw[e,h1]at h1';injection h1' with h1';injection h1' with _ h1';exact h1'.symm
  rw[this];exact hp.2
 ·have e:(w.new (.mapIter (some b) clock [] clock)).h.get b=w.h.get b:=by
   show(w.h.new _).get b=_;rw[IH.bT,if_neg (by have:=w.eH b hz;omega)]
  rw[e,h1]at h1';injection h1' with h1';injection h1' with _ h1'
theorem Ni{es ve rem:List MapEntry}(hp:(ve++rem).Perm es)(hn:(es.map (·.born)).Nodup):(es.filter λe=>!(ve.map (·.born)).contains e.born).Perm rem:=by
 have hp2:((ve++rem).filter λe=>!(ve.map (·.born)).contains e.born).Perm (es.filter λe=>!(ve.map (·.born)).contains e.born):=hp.filter _;rw[List.filter_append]at hp2;have h1:ve.filter (λe=>!(ve.map (·.born)).contains e.born)=[]:=by
  rw[List.filter_eq_nil_iff];intro e he;simp only[um,Bool.not_eq_false',List.contains_eq_mem,ul];simp;exact⟨e,he,rfl⟩
 have hnd:((ve++rem).map (·.born)).Nodup:=(hp.map _).nodup_iff.2 hn;rw[jP,pE]at hnd;have h2:rem.filter (λe=>!(ve.map (·.born)).contains e.born)=rem:=by
  rw[List.filter_eq_self];intro e he;simp only[um,List.contains_eq_mem,decide_eq_false_iff_not];intro hm;exact hnd.2.2 _ hm _ (List.mem_map_of_mem he) rfl
 rw[h1,h2,jr]at hp2;exact hp2.symm
theorem Nj{x:Operand}{r b:Nat}{aW dZ:List (α×Value)}
 (more:∀p rem,(dZ++p::rem).Perm aW->R (λh=>aj P ds rest (act n ((d,.tuple #[.bool true,bM p.1,p.2])::l) D pm ro) h K) B w0 (qH bM r b aW (dZ++[p])::kl') F)
 (done:dZ.Perm aW->R (λh=>aj P ds rest (act n ((d,.tuple #[.bool false])::l) D pm ro) h K) B w0 (qH bM r b aW dZ::kl') F)
 (inj:∀a c,bM a=bM c->a=c)
 (hx:ev l x=.pointer (some ⟨r,0,none⟩):=by rfl) (hs:ax (qH bM r b aW dZ) kl kl':=by exact eU) (hn:Nat.blt d n=true:=by rfl) (hg:aT l g=true:=by rfl):
 R (λh=>aj P ds (⟨⟨some d,g,.lH x⟩,[]⟩::rest) (act n l D pm ro) h K) B w0 kl F:=λw s0=>by
 have s:=s0.dB hs;obtain⟨S,⟨S1,S2,⟨q1,es,clock,seen,last,h1,hz,h2,h3,h4,ve,rem,h5,h6,h7⟩,q2,eS⟩,hnd,hown⟩:=s.own;subst h4 h6;have hpl:=Ni h7 h2.nd;have hold:((es.filter λe=>!(ve.map (·.born)).contains e.born).filter λe=>Nat.blt e.born last)=es.filter λe=>!(ve.map (·.born)).contains e.born:=by
  rw[List.filter_eq_self];intro e he;have:=h2.lt e (List.mem_filter.1 he).1;rw[jk];exact this
 have hnew:((es.filter λe=>!(ve.map (·.born)).contains e.born).filter λe=>Nat.ble last e.born)=[]:=by
  rw[List.filter_eq_nil_iff];intro e he;have:=h2.lt e (List.mem_filter.1 he).1;rw[lG];omega
 have hcl:(!(ve.map (·.born)).isEmpty&&!es.isEmpty&&es.all (λe=>Nat.ble last e.born))=false:=by
  cases es with
  |nil=>simp
  |cons e es=>
   have:=h2.lt e (bC ..);have:Nat.ble last e.born=false:=by
    cases hb:Nat.ble last e.born with
    |false=>rfl
    |true=>rw[lG]at hb;omega
   simp[this]
 have Nk:oh (ev l x) w.h=some ((if(es.filter λe=>!(ve.map (·.born)).contains e.born).isEmpty then[(.tuple #[.bool false],w.h)]else[])++
  (es.filter λe=>!(ve.map (·.born)).contains e.born).map λe=>(.tuple #[.bool true,e.key,e.val],w.h.set r (.mapIter (some b) last (ve.map (·.born)++[e.born]) last))):=by
  rw[hx];unfold oh;simp only[h3,h1];rw[hcl];simp only[cond_false,hold,hnew,fu]
 -- a pair for an entry
 have Q6:∀(Q7:List MapEntry) (Q8:List (α×Value)),True:=λ_ _=>trivial;refine .next (oL hg) x rfl rfl _ (by rw[gU];exact Nk) ?_
 intro vh hm;rcases dS.1 hm with hm|hm
 ·split at hm
  ·rename_i hemp;rw[bV.1 hm,ja hn];have Nl:rem=[]:=by
    have:(es.filter λe=>!(ve.map (·.born)).contains e.born)=[]:=by simpa using hemp
    rw[this]at hpl;exact List.nil_perm.1 hpl|>λh=>h
   refine done ?_ w s;subst Nl;rw[fu]at h7;have hm1:=h7.map (λe=>(e.key,e.val));rw[h5,h2.tN]at hm1;exact ET (λp:α×Value=>(bM p.1,p.2)) (λp q hpq=>by
    injection hpq with e1 e2;exact Prod.ext (inj _ _ e1) e2) hm1
  ·cases hm
 ·obtain⟨e,he,rfl⟩:=jN.1 hm;have hr:e∈rem:=hpl.mem_iff.1 he;obtain⟨r1,r2,Nn⟩:=List.append_of_mem hr
  -- the pair
  obtain⟨i,hi,hie⟩:∃i,i<aW.length/\es[i]? =some e:=by
   obtain⟨i,hi⟩:=xZ.1 (List.mem_filter.1 he).1;have:=(bH.1 hi).1;rw[EX h2]at this;exact⟨i,this,hi⟩
  have hpe:(e.key,e.val)=(bM aW[i].1,aW[i].2):=by
   have:=congrArg (λl=>l[i]?) h2.tN;simp only[bN,hie,aU hi,ed]at this;injection this
  injection hpe with hpk hpv;rw[ja hn,hpk,hpv];have hperm:(ve++[e]++(r1++r2)).Perm es:=by
   refine List.Perm.trans ?_ h7;rw[Nn,fD];refine List.Perm.append_left _ ?_;exact(List.perm_middle (l₁:=r1) (l₂:=r2) (a:=e)).symm
  have tO:qG bM (dZ++[aW[i]]) (ve++[e]):=by
   unfold qG;rw[jP,jP,h5];simp[hpk,hpv]
  obtain⟨Aj,Np⟩:∃Aj:List (α×Value),(dZ++aW[i]::Aj).Perm aW:=by
   have hm1:=hperm.map (λe=>(e.key,e.val));rw[jP,tO,h2.tN]at hm1;have hex:∀ls:List MapEntry,(∀x∈ls,∃p:α×Value,(x.key,x.val)=(bM p.1,p.2))->∃ps:List (α×Value),ls.map (λe=>(e.key,e.val))=ps.map λp=>(bM p.1,p.2):=by
    intro ls;induction ls with
    |nil=>intro _;exact⟨[],rfl⟩
    |cons x ls ih=>
     intro h;obtain⟨p,hp⟩:=h x (bC ..);obtain⟨ps,hps⟩:=ih λy hy=>h y (aY _ hy);exact⟨p::ps,by rw[jh,jh,hp,hps]⟩
   obtain⟨ps,hps⟩:=hex (r1++r2) (λy hy=>by
    have hy':y∈es:=hperm.mem_iff.1 (jq _ hy);obtain⟨j,hj⟩:=xZ.1 hy';have hj':=(bH.1 hj).1;rw[EX h2]at hj';have:=congrArg (λl=>l[j]?) h2.tN;simp only[bN,hj,aU hj',ed]at this;injection this with this;exact⟨_,this⟩)
   rw[hps,<- jP]at hm1;refine⟨ps,?_⟩;have:=ET (λp:α×Value=>(bM p.1,p.2)) (λp q hpq=>by
    injection hpq with e1 e2;exact Prod.ext (inj _ _ e1) e2) hm1
   rwa [fD]at this
  refine more aW[i] Aj Np ⟨w.h.set r (.mapIter (some b) last (ve.map (·.born)++[e.born]) last),w.z,λi hi=>w.eH i hi⟩ ?_
  -- the state behind the step
  have s2:St B w0 (pt r (.mapIter (some b) last (ve.map (·.born)) last)::kl') F w:=⟨s.agree,s.le,s.bR,⟨S,⟨S1,S2,⟨q1,h3⟩,q2,eS⟩,hnd,hown⟩,s.facts⟩
  have s3:=s2.write (o':=.mapIter (some b) last (ve.map (·.born)++[e.born]) last);refine s3.oM λS' hp=>⟨hp.1,es,last,_,last,?_,hz,h2,hp.2,rfl,ve++[e],r1++r2,tO,by rw[jP];rfl,hperm⟩
  have hrb:r≠b:=λer=>by
   have:=s2.own;obtain⟨S0,⟨T1,T2,⟨u1,_⟩,_,ue⟩,_,ho⟩:=this;exact(ho r (by rw[ue,u1];simp)).2.2 (er▸hz)
  show(w.h.set r _).get b=_;rw[IH.fH,if_neg (λer=>hrb er.symm)];exact h1
theorem Nq{x:Operand}{r b:Nat}{aW dZ:List (α×Value)}{p:α×Value}
 (next:R (λh=>aj P ds rest (act n ((d,.tuple #[bM p.1,p.2])::l) D pm ro) h K) B w0 kl F)
 (hx:ev l x=.pointer (some ⟨r,0,none⟩):=by rfl) (hs:ax (qH bM r b aW (dZ++[p])) kl kl':=by exact eU) (hn:Nat.blt d n=true:=by rfl) (hg:aT l g=true:=by rfl):
 R (λh=>aj P ds (⟨⟨some d,g,.entry x⟩,[]⟩::rest) (act n l D pm ro) h K) B w0 kl F:=λw s0=>by
 have s:=s0.dB hs;obtain⟨S,⟨S1,S2,⟨q1,es,clock,seen,last,h1,hz,h2,h3,h4,ve,rem,h5,h6,h7⟩,q2,e⟩,hnd,hown⟩:=s.own;subst h4 h6;obtain⟨EY,x0,tO,hx0,hx1⟩:∃EY x0,ve=EY++[x0]/\x0.key=bM p.1/\x0.val=p.2:=by
  unfold qG at h5;rw[jP]at h5;obtain⟨a1,a2,e1,e2,e3⟩:=List.map_eq_append_iff.1 h5;obtain⟨x0,a3,e4,e5,e6⟩:=List.map_eq_cons_iff.1 e3;have:a3=[]:=by simpa using e6
  subst this;injection e5 with e5 e7;exact⟨a1,x0,by rw[e1,e4],e5,e7⟩
 have hfind:es.find? (λy=>Nat.beq y.born x0.born)=some x0:=by
  have hm:x0∈es:=h7.mem_iff.1 (gY _ (by rw[tO];simp));cases hf:es.find? (λy=>Nat.beq y.born x0.born)with
  |none=>
   have:=List.find?_eq_none.1 hf x0 hm;simp[nS]at this
  |some y=>
   have hy:=List.find?_some hf;have hym:=List.mem_of_find?_eq_some hf;have hb:y.born=x0.born:=iC hy;congr 1;exact EU h2.nd hym hm hb
 refine fJ hn hg (v:=.tuple #[bM p.1,p.2]) ?_ (next w s0);simp only[ai.run,hx,h3,h1];rw[tO];simp only[jP,jh,List.map_nil,List.getLast?_append,List.getLast?_singleton,Option.some_or,nS,cond_true,hfind,hx0,hx1]
end
end Go.Ideal
namespace Go.Ideal
open Go.Sort
variable {P:Program}
theorem WR.grow{β:ae}{h:IH}{w:World}(hW:WR P β h w)(os:Array Obj):WR P β h (grow w os)/\Eff β h w β h (grow w os):=by
 have hold:∀b,b<w.heap.size->(Go.Sort.grow w os).heap[b]? =w.heap[b]?:=λb hb=>by
  show(w.heap++os)[b]? =_;rw[Gp hb]
 refine⟨⟨hW.dom,hW.live,λi g o h1 h2=>?_,hW.inj⟩,⟨λ_ _=>rfl,aB _,λ_ _ h=>h,λ_ _ _=>rfl,aB _,λ_ _ _=>rfl,rfl,rfl,rfl,?_,λb hb _=>hold b hb,λi g hg hi=>absurd (hW.dom _ _ hg) (by omega),λi g _ _ _ _ hb=>hold _ hb,aB _⟩⟩
 ·have hO:=hW.obj i g o h1 h2;exact hO.congr (hold _ hO.lt)
 ·show w.heap.size<=(w.heap++os).size;rw[Array.size_append];omega
def xh(o:Nat):List Value->Array Value->Array Value
 |[],c=>c
 |v::vs,c=>xh (o+1) vs (c.setIfInBounds o v)
theorem EZ(b:Nat):∀(vs:List Value) (o:Nat) (w:World),w.setCells b o vs=mapBlock w b (xh o vs)
 |[],o,w=>(mapBlock_id w b _ λc e fr h=>rfl).symm
 |v::vs,o,w=>by
  show(w.setCell ⟨b,o,none⟩ v).setCells b (o+1) vs=_;rw[EZ b vs (o+1),setCell_eq,mapBlock_mapBlock];rfl
theorem E5:∀(vs:List Value) (o:Nat) (c:Array Value) (k:Nat),(xh o vs c)[k]? =if o<=k/\k<o+vs.length/\k<c.size then vs[k - o]? else c[k]?
 |[],o,c,k=>by
  rw[if_neg (by rw[pq];omega)];rfl
 |v::vs,o,c,k=>by
  show(xh (o+1) vs (c.setIfInBounds o v))[k]? =_;rw[E5 vs (o+1),Array.size_setIfInBounds,o8];by_cases h1:o+1<=k/\k<o+1+vs.length/\k<c.size
  ·rw[if_pos h1,if_pos ⟨by omega,by omega,h1.2.2⟩];rw[show k - o=(k - (o+1))+1 by omega,iN]
  ·rw[if_neg h1,Gn];by_cases h2:o=k
   ·subst h2;rw[if_pos rfl];by_cases h3:o<c.size
    ·rw[if_pos h3,if_pos ⟨aB _,by omega,h3⟩,Nat.sub_self];rfl
    ·rw[if_neg h3,if_neg (by omega)];exact(jg (by omega)).symm
   ·rw[if_neg h2,if_neg (by omega)]
theorem setCells_putRow{α:Type}[Inhabited α](enc:α->Value)(w:World)(b o:Nat)(d:Array α):w.setCells b o (d.toList.map enc)=putRow enc w b o d:=by
 rw[EZ];unfold putRow;refine mapBlock_congr w b _ _ λc e fr hc=>?_;apply Array.ext_getElem?;intro k;rw[E5,putCells,Array.getElem?_mapIdx,bW,Bw];by_cases hk:k<c.size
 ·by_cases h:o<=k/\k<o+d.size
  ·rw[if_pos ⟨h.1,h.2,hk⟩,BD hk,ed,if_pos h,bN,lD,BD (by omega)];rw[ed,getElem!_pos d _ (by omega)]
  ·rw[if_neg (λq=>h ⟨q.1,q.2.1⟩),BD hk,ed,if_neg h]
 ·rw[if_neg (by omega),jg (by omega)];rfl
theorem tQ{α:Type}:∀(l:List α) (o:Nat) (xs:List α),o+xs.length<=l.length->∃r,bX l o xs=some r
 |[],o,xs,h=>by
  have h1:xs=[]:=jm.1 (by rw[pq]at h;omega);have h2:o=0:=by rw[pq]at h;omega
  exact⟨[],by rw[Ca,if_pos ⟨h1,h2⟩]⟩
 |c::l,0,[],h=>⟨_,Cb c l⟩
 |c::l,0,x::xs,h=>by
  obtain⟨r,hr⟩:=tQ l 0 xs (by simp only[o8]at h;omega);exact⟨x::r,by rw[Cc,hr];rfl⟩
 |c::l,o+1,xs,h=>by
  obtain⟨r,hr⟩:=tQ l o xs (by simp only[o8]at h;omega);exact⟨c::r,by rw[Ce,hr];rfl⟩
end Go.Ideal
namespace Go.Ideal
variable {P:Program}
def qI{α:Type}(P:Program)(vals:α->List Value)(fn:Fn)(first cap:List Value)(F:List ay)(X:List α->Prop):Prop:=
 ∀(S:Type) (inv:S->List OA) (ok:List α->S->Prop) (step:S->α->S×Bool) (s0:S) (Ak:Fn) (y1 y2:List Value) (F':List ay),ok [] s0->
  (∀vs s x rest,ok vs s->X (vs++x::rest)->(step s x).2=true->ok (vs++[x]) (step s x).1)->
  (∀vs s x rest,ok vs s->X (vs++x::rest)->cB P Ak (y1++vals x) y2 (inv s) F' (λ_:Unit=>.bool (step s x).2) (λ_=>inv (step s x).1) (λ_=>[]) (λ_=>True))->
  cB P fn (first++[.func Ak ⟨y1⟩ ⟨y2⟩]) cap (inv s0) (F++F') (λ_:List α=>.tuple ⟨[]⟩) (λxs=>inv (iL step s0 xs)) (λ_=>[]) X
section
variable {B:List Nat} {w0:Wd} {kl kl' aQ:List OA} {F:List ay} {K:KO} {n:Nat} {l:List (Nat×Value)} {D:List Deferred} {pm:Option FrameMode} {ro:Option Nat}
def xk{Z:Type}(B:List Nat)(w0:Wd)(n:Nat)(l3:Z->List (Nat×Value))(lo:Nat)(o:aH)(kl:Z->List OA)(F:List ay):KO:=λoo a h=>
 oo=.normal/\∃z,a=act n (l3 z) [] none (some lo)/\∃w:Wd,w.h=h/\St B w0 (pt lo o::kl z) F w
theorem Nr{Z:Type}{l3:Z->List (Nat×Value)}{lo:Nat}{o:aH}{k3:Z->List OA}(z:Z)(hl:l3 z=l)(hk:bG (pt lo o::k3 z) kl aQ:=by exact mi):R (λh=>xk B w0 n l3 lo o k3 F .normal (act n l [] none (some lo)) h) B w0 kl F:=λw s=>
 ⟨rfl,z,by rw[hl],w,rfl,(s.gV hk).drop⟩
theorem Ns{Y Z:Type}{lo:Nat}{L:gL}{args:List Value}{k1:List OA}{out:Y->Out}{k1':Y->List OA}{fs:Y->List ay}{pr:Y->Prop}(l:List (Nat×Value))(l3:Z->List (Nat×Value))(k3:Z->List OA)(hl:L.tmps=bU l)(hst:L.state=.ready)(hps:L.params.all (λp=>Nat.blt p L.n)=true)(hlen:L.params.length=args.length)
 (ha:∀B w0,R (λh=>EV P L.assign (act L.n ((L.params.zip args).reverse++l) [] none (some lo)) h (xk B w0 L.n l3 lo (.loop L) k3 F)) B w0 (pt lo (.loop L)::k1) F)
 (hb:∀z B w0,R (λh=>EV P L.body (act L.n (l3 z) [] none (some lo)) h (tL B w0 lo L out k1' fs pr)) B w0 (pt lo (.loop (nK L))::k3 z) F):
 cB P (.yield lo) args [] (pt lo (.loop L)::k1) F (λy:Y=>.bool (iK (out y))) (λy=>pt lo (.loop (gJ L (out y)))::k1' y) fs pr:=by
 intro B w s;obtain⟨l2,e1,e2⟩:=EN L.n L.params args l hps hlen;refine .round lo rfl rfl L s.get.1 hlen.symm _ (by
  rw[hl];show EV P L.assign (au.mk L.n (jV L.n L.params args (bU l)) [] none (some lo)) w.h _;rw[e1,e2];exact ha B w w s) ?_ ?_
 ·rintro o a h ⟨rfl,z,rfl,w1,rfl,s1⟩;exact⟨rfl,L,s1.get.1,hst⟩
 ·rintro a h r1 ⟨_,z,rfl,w1,rfl,s1⟩ hr;have hr1:r1=L:=by
   have:=s1.get.1;rw[hr]at this;injection this with this;injection this
  subst hr1;have hb:=hb z B w _ (s1.write (o':=.loop (nK r1)));refine DL hb _ ?_;rintro o a h ⟨hd,w2,y,rfl,rfl,hn,s2,hp⟩;refine⟨nK r1,s2.get.1,hd,?_⟩;have fin:∀o',iK o'=iK (out y)->gJ r1 o'=gJ r1 (out y)->Left B w (λy:Y=>.bool (iK (out y))) (λy=>pt lo (.loop (gJ r1 (out y)))::k1' y) fs pr (.ok (.bool (iK (out y)))) none (w2.h.set lo (.loop (gJ r1 (out y)))):=λo' _ _=>
   ⟨rfl,_,y,rfl,s2.write,rfl,hp⟩
  cases ho:out y with
  |normal=>have:=fin .normal (by rw[ho]) (by rw[ho]);rw[ho]at this;exact this
  |exit j=>have:=fin (.exit j) (by rw[ho]) (by rw[ho]);rw[ho]at this;exact this
  |ret=>have:=fin .ret (by rw[ho]) (by rw[ho]);rw[ho]at this;exact this
  |panic ch=>rw[ho]at hn;exact hn.elim
theorem Nt{S α Z:Type}{f:Operand}{ps:List Tmp}{assign body:aM}{fn:Fn}{first captured:List Value}{vals:α->List Value}{F1:List ay}{X:List α->Prop}(step:S->α->S×Out)(inv:S->List OA)(ok:List α->S->Prop)(s0:S)(h0:ok [] s0)
 (hok:∀vs s x rest,ok vs s->X (vs++x::rest)->(step s x).2=.normal->ok (vs++[x]) (step s x).1) (hit:qI P vals fn first captured F1 X)
 (hf:ev l f=.func fn ⟨first⟩ ⟨captured⟩) (hps:ps.all (λp=>Nat.blt p n)=true) (hlen:∀x,ps.length=(vals x).length) (hk:bG (inv s0) kl aQ) (hF:Sub F1 F) (dJ:∀s x,tK (step s x).2)
 (l3:α->Z->List (Nat×Value)) (k3:α->Z->List OA)
 (ha:∀(s:S) (x:α) (lo:Nat) (o:aH) B w0,R (λh=>EV P assign (act n ((ps.zip (vals x)).reverse++l) [] none (some lo)) h (xk B w0 n (l3 x) lo o (λz=>k3 x z++inv s) F)) B w0 (pt lo o::inv s) F)
 (hb:∀(vs:List α) (s:S) (x:α) (rest:List α) (z:Z) (lo:Nat) (L:gL) B w0,ok vs s->X (vs++x::rest)->R (λh=>EV P body (act n (l3 x z) [] none (some lo)) h (tL B w0 lo L (λ_:Unit=>(step s x).2) (λ_=>inv (step s x).1) (λ_=>[]) (λ_=>True))) B w0 (pt lo (.loop (nK L))::(k3 x z++inv s)) F)
 (next:∀r xs,X xs->R (λh=>K (iM step s0 xs).2 (act n l ({target:=.collected r,args:= #[]}::D) pm none) h) B w0 (inv (iM step s0 xs).1++(pt r (.bZ true)::aQ)) F):
 R (λh=>EV P (.rangeFunc f ps assign body) (act n l D pm none) h K) B w0 kl F:=by
 refine M5 (Y:=List α) (k1:=inv s0) (F1:=F1++F) (Af:=λ_=>.tuple ⟨[]⟩) (out:=λxs=>(iM step s0 xs).2) (k1':=λxs=>inv (iM step s0 xs).1) (fs:=λ_=>[]) (pr:=X) hf ?_ hk (hF.app (Sub.refl' F [])) (λr y hy=>next r y hy);intro lo r;have:=hit (S×Out) (λso=>pt lo (.loop (gJ ⟨.ready,none,bU l,n,ps,assign,body,r⟩ so.2))::inv so.1) (λvs so=>so.2=.normal/\ok vs so.1) (λso x=>(step so.1 x,iK (step so.1 x).2)) (s0,.normal) (.yield lo) [] [] F ⟨rfl,h0⟩
  (λvs so x rest ho hx h=>by
    have h:iK (step so.1 x).2=true:=h;have hn:(step so.1 x).2=.normal:=by
     cases e:(step so.1 x).2 with
     |normal=>rfl
     |_=>rw[e]at h;cases h
    exact⟨hn,hok vs so.1 x rest ho.2 hx hn⟩)
  (λvs so x rest ho hx=>by
    obtain⟨s,o⟩:=so;obtain⟨hn,ho⟩:=ho;have hn:o=.normal:=hn;subst hn;exact Ns (Y:=Unit) (L:=⟨.ready,none,bU l,n,ps,assign,body,r⟩) (args:=vals x) (k1:=inv s) (out:=λ_=>(step s x).2) (k1':=λ_=>inv (step s x).1) (fs:=λ_=>[]) (pr:=λ_=>True) l (l3 x) (λz=>k3 x z++inv s) rfl rfl hps (hlen x)
     (λB w0=>ha s x lo _ B w0) (λz B w0=>hb vs s x rest z lo _ B w0 ho hx))
 have e:(λxs:List α=>pt lo (.loop (gJ ⟨.ready,none,bU l,n,ps,assign,body,r⟩ (iL (λ(so:S×Out) x=>(step so.1 x,iK (step so.1 x).2)) (s0,.normal) xs).2))::inv (iL (λ(so:S×Out) x=>(step so.1 x,iK (step so.1 x).2)) (s0,.normal) xs).1)=λxs=>pt lo (.loop (gJ ⟨.ready,none,bU l,n,ps,assign,body,r⟩ (iM step s0 xs).2))::inv (iM step s0 xs).1:=by
  funext xs
  rw[EO]
 have h2:cB P fn (first++[.func (.yield lo) ⟨[]⟩ ⟨[]⟩]) captured (pt lo (.loop ⟨.ready,none,bU l,n,ps,assign,body,r⟩)::inv s0) (F1++F) (λ_:List α=>.tuple ⟨[]⟩) (λxs=>pt lo (.loop (gJ ⟨.ready,none,bU l,n,ps,assign,body,r⟩ (iL (λ(so:S×Out) x=>(step so.1 x,iK (step so.1 x).2)) (s0,.normal) xs).2))::inv (iL (λ(so:S×Out) x=>(step so.1 x,iK (step so.1 x).2)) (s0,.normal) xs).1) (λ_=>[]) X:=this;rw[e]at h2;exact h2
theorem Nu{S α Z:Type}{f:Operand}{ps:List Tmp}{assign body:aM}{fn:Fn}{first captured:List Value}{vals:α->List Value}{F1:List ay}{X:List α->Prop}(step:S->α->S×Out)(inv:S->List OA)(ok:List α->S->Prop)(s0:S)(l3:α->Z->List (Nat×Value))(k3:α->Z->List OA)(h0:ok [] s0)
 (hok:∀vs s x rest,ok vs s->X (vs++x::rest)->(step s x).2=.normal->ok (vs++[x]) (step s x).1) (hit:qI P vals fn first captured F1 X)
 (ha:∀(s:S) (x:α) (lo:Nat) (o:aH) B w0,R (λh=>EV P assign (act n ((ps.zip (vals x)).reverse++l) [] none (some lo)) h (xk B w0 n (l3 x) lo o (λz=>k3 x z++inv s) F)) B w0 (pt lo o::inv s) F)
 (hb:∀(vs:List α) (s:S) (x:α) (rest:List α) (z:Z) (lo:Nat) (L:gL) B w0,ok vs s->X (vs++x::rest)->R (λh=>EV P body (act n (l3 x z) [] none (some lo)) h (tL B w0 lo L (λ_:Unit=>(step s x).2) (λ_=>inv (step s x).1) (λ_=>[]) (λ_=>True))) B w0 (pt lo (.loop (nK L))::(k3 x z++inv s)) F)
 (next:∀r xs,X xs->R (λh=>K (iM step s0 xs).2 (act n l ({target:=.collected r,args:= #[]}::D) pm none) h) B w0 (inv (iM step s0 xs).1++(pt r (.bZ true)::aQ)) F)
 (dJ:∀s x,tK (step s x).2)
 (hf:ev l f=.func fn ⟨first⟩ ⟨captured⟩:=by rfl) (hps:ps.all (λp=>Nat.blt p n)=true:=by rfl) (hlen:∀x,ps.length=(vals x).length:=by intro _;rfl)
 (hk:bG (inv s0) kl aQ:=by exact mi) (hF:Sub F1 F:=by exact mh):
 R (λh=>EV P (.rangeFunc f ps assign body) (act n l D pm none) h K) B w0 kl F:=
 Nt step inv ok s0 h0 hok hit hf hps hlen hk hF dJ l3 k3 ha hb next
end
end Go.Ideal
namespace Go.Ideal
variable {P:Program}
def aL{α:Type}(E:Enc α)(aa:List (α×E.Y)):List Value:=aa.flatMap λp=>E.pat p.1 p.2
theorem lc{α:Type}{E:Enc α}:∀aa:List (α×E.Y),(aL E aa).length=aa.length*E.n
 |[]=>by simp[aL]
 |p::l=>by
  have ih:=lc l;unfold aL at ih⊢;rw[List.flatMap_cons,dO,ih,E.len,o8,iE];omega
theorem oU{α:Type}{E:Enc α}:∀{aa:List (α×E.Y)} {k:Nat} {p:α×E.Y} {j:Nat} {u:Value},aa[k]? =some p->(E.pat p.1 p.2)[j]? =some u->(aL E aa)[k*E.n+j]? =some u
 |[],k,p,j,u,h,_=>by cases h
 |q::l,0,p,j,u,h,hj=>by
  cases h;unfold aL;rw[List.flatMap_cons,qY,dU,fK (bH.1 hj).1];exact hj
 |q::l,k+1,p,j,u,h,hj=>by
  have ih:=oU (aa:=l) (k:=k) (by simpa using h) hj;unfold aL at ih⊢;rw[List.flatMap_cons,ji (by rw[E.len,iE];omega),E.len,show(k+1)*E.n+j - E.n=k*E.n+j by rw[iE];omega];exact ih
def nL{α:Type}(E:Enc α)(v:Value)(aa:List (α×E.Y)):ay:=
 ⟨λw=>(aa=[]/\∃a c,v=.slice a 0 c/\zY E.n a)\/∃i o f c cells,(v=.slice (some ⟨i,o,some f⟩) aa.length c/\aa.length<=c/\(f=0\/f=E.n))/\Fz w i cells/\
  ∀(k:Nat) p,aa[k]? =some p->(∀(j:Nat) u,(E.pat p.1 p.2)[j]? =some u->cells[o+k*E.n+j]? =some u)/\∀f∈E.fs p.1 p.2,f.p w,
  λa h=>by
   rcases h with h|⟨i,o,f,c,cells,h1,h2,h3⟩
   ·exact .inl h
   ·refine .inr ⟨i,o,f,c,cells,h1,h2.mono a,λk x hk=>?_⟩;obtain⟨q1,q2⟩:=h3 k x hk;exact⟨q1,λf hf=>f.mono a (q2 f hf)⟩⟩
def kz{α:Type}(E:Enc α)(aa:List (α×E.Y)):ay:=⟨λw=>∀p∈aa,∀f∈E.fs p.1 p.2,f.p w,λa h p hp f hf=>f.mono a (h p hp f hf)⟩
theorem Nv{α:Type}{E:Enc α}{v:Value}{aa:List (α×E.Y)}{w:Wd}(h:(nL E v aa).p w):(kz E aa).p w:=by
 intro p hp f hf;rcases h with⟨rfl,_⟩|⟨i,o,fl,c,cells,_,_,h3⟩
 ·cases hp
 ·obtain⟨k,hk⟩:=xZ.1 hp;exact(h3 k p hk).2 f hf
theorem Nw{α:Type}{E:Enc α}{v:Value}{xs:List α}{w:Wd}(h:(bg E v xs).p w):∃aa:List (α×E.Y),aa.map (·.1)=xs/\(nL E v aa).p w:=by
 rcases h with⟨rfl,h⟩|⟨i,o,f,c,cells,h1,h2,h3⟩
 ·exact⟨[],rfl,.inl ⟨rfl,h⟩⟩
 ·obtain⟨l,hl,hp⟩:=wX (p:=λk (p:α×E.Y)=>xs[k]? =some p.1/\(∀(j:Nat) u,(E.pat p.1 p.2)[j]? =some u->cells[o+k*E.n+j]? =some u)/\∀f∈E.fs p.1 p.2,f.p w) xs.length (λk hk=>by
   obtain⟨y,q1,q2⟩:=h3 k xs[k] (aU hk);exact⟨(xs[k],y),aU hk,q1,q2⟩)
  have hm:l.map (·.1)=xs:=by
   apply gX;intro k;rw[bN];by_cases hk:k<xs.length
   ·have hk':k<l.length:=by omega
    rw[aU hk',ed,(hp k l[k] (aU hk')).1]
   ·rw[dF (by omega),dF (by omega)];rfl
  exact⟨l,hm,.inr ⟨i,o,f,c,cells,by rw[hl];exact h1,h2,λk p hk=>(hp k p hk).2⟩⟩
def ar{α:Type}(E:Enc α)(v:Value)(aa:List (α×E.Y)):OA:=
 ⟨λw S=>(aa=[]/\(∃a,v=.slice a 0 0/\zY E.n a)/\S=[])\/∃b f,v=.slice (some ⟨b,0,some f⟩) aa.length aa.length/\(f=0\/f=E.n)/\S=[b]/\w.h.get b=some (.cells (aL E aa)),
  λa h hp=>by
   rcases hp with hp|⟨b,f,h1,h2,h3,h4⟩
   ·exact .inl hp
   ·exact .inr ⟨b,f,h1,h2,h3,by rw[h b (by rw[h3];exact bV.2 rfl)];exact h4⟩⟩
section
variable {B:List Nat} {w0:Wd} {kl kl' aQ:List OA} {F:List ay} {K:KO} {ds:List Tmp} {rest:List aC} {n:Nat} {l:List (Nat×Value)} {D:List Deferred} {pm:Option FrameMode} {ro:Option Nat} {d:Nat} {g:Option (Tmp×Bool)}
variable {α:Type} {E:Enc α} {v:Value}
theorem xm{xs:List α}{Q:IH->Prop}(E:Enc α)(v:Value)(h:∀aa:List (α×E.Y),aa.map (·.1)=xs->R Q B w0 kl (nL E v aa::F))(hf:bg E v xs∈F:=by exact mo):R Q B w0 kl F:=λw s=>by
 obtain⟨aa,h1,h2⟩:=Nw (s.facts _ hf);exact h aa h1 w ⟨s.agree,s.le,s.bR,s.own,λf hf=>by
  rcases aR.1 hf with rfl|hf
  ·exact h2
  ·exact s.facts f hf⟩
theorem xn{aa:List (α×E.Y)}{Q:IH->Prop}(h:R Q B w0 kl (kz E aa::F))(hf:nL E v aa∈F:=by exact mo):R Q B w0 kl F:=λw s=>
 h w ⟨s.agree,s.le,s.bR,s.own,λf hf'=>by
  rcases aR.1 hf' with rfl|hf'
  ·exact Nv (s.facts _ hf)
  ·exact s.facts f hf'⟩
theorem Ny{α:Type}(E:Enc α){aa:List (α×E.Y)}{Q:IH->Prop}{b f m:Nat}(hm:m=aa.length)(hf:f=0\/f=E.n)(h:R Q B w0 (ar E (.slice (some ⟨b,0,some f⟩) m m) aa::kl') F)(hk:ax (pt b (.cells (aL E aa))) kl kl':=by exact eU):R Q B w0 kl F:=λw s=>by
 refine h w ((s.dB hk).zZ (A:=pt b (.cells (aL E aa))) λw S hp=>.inr ⟨b,f,by rw[hm],hf,hp.1,hp.2⟩)
theorem Nz{x:Operand}{t e:TypeId}{m c:Nat}(hu:P.underlying t=some (.slice e))(hx:ev l x=.slice none m c):Pu P (ev l) (.bin .eql t x (.const (.slice none 0 0))) (.bool true):=λh=>by
 have he:bQ P (Op.equal t (.slice none m c) (.slice none 0 0))=some true:=by
  show bQ P (Op.equalIn (9999+1) t (.slice none m c) (.slice none 0 0))=_;unfold Op.equalIn;rw[gP,wH hu];rfl
 have h1:eY P (do eqGuard .eql t x (.const (.slice none 0 0)) (.slice none m c) (.slice none 0 0);binOp .eql t (.slice none m c) (.slice none 0 0))=some (.bool true):=by
  unfold eY;rw[gP,qz (by intro c e;cases e) (by intro e;cases e)];simp only[gW,binOp];rw[gP,he];rfl
 have h2:ic P .eql t x (.const (.slice none 0 0)) (.slice none m c) (.slice none 0 0)=some (.bool true):=by
  by_cases hmc:m=0/\c=0
  ·show cond (aG (Value.slice none m c)&&aG (Value.slice none 0 0)) (eY P (do eqGuard .eql t x (.const (.slice none 0 0)) (.slice none m c) (.slice none 0 0);binOp .eql t (.slice none m c) (.slice none 0 0))) _=_;rw[h1];obtain⟨rfl,rfl⟩:=hmc;simp[aG]
  ·have e0:aG (Value.slice none m c)=false:=by
    cases hb:aG (Value.slice none m c)with
    |false=>rfl
    |true=>exact absurd (by simpa[aG]using hb) hmc
   have e1:jw P t (.slice none m c) (.slice none 0 0)=some true:=by
    unfold jw;rw[hu]
   show cond (aG (Value.slice none m c)&&aG (Value.slice none 0 0)) _ (match jw P t (.slice none m c) (.slice none 0 0)with|some b=>some (Value.bool b)|none=>none)=_;rw[e0,e1];rfl
 simp only[ai.run,hx];show(match ic P .eql t x (.const (.slice none 0 0)) (.slice none m c) (.slice none 0 0)with|some v=>some (v,h)|none=>none)=_;rw[h2]
theorem E8{x:Operand}{t e:TypeId}{a:Addr}{m c:Nat}(hu:P.underlying t=some (.slice e))(hx:ev l x=.slice (some a) m c):Pu P (ev l) (.bin .eql t x (.const (.slice none 0 0))) (.bool false):=λh=>by
 have h2:ic P .eql t x (.const (.slice none 0 0)) (.slice (some a) m c) (.slice none 0 0)=some (.bool false):=by
  have:jw P t (.slice (some a) m c) (.slice none 0 0)=some false:=by
   unfold jw;rw[hu]
  show(match jw P t (.slice (some a) m c) (.slice none 0 0)with|some b=>some (Value.bool b)|none=>none)=_;rw[this]
 simp only[ai.run,hx];show(match ic P .eql t x (.const (.slice none 0 0)) (.slice (some a) m c) (.slice none 0 0)with|some v=>some (v,h)|none=>none)=_;rw[h2]
theorem NA{e:TypeId}{size bytes b c:Nat}{a:Option Addr}{s x:Operand}
 (next:R (λh=>aj P ds rest (act n ((d,.slice (some ⟨b,0,some 0⟩) 0 0)::l) D pm ro) h K) B w0 (pt b (.cells [])::kl') F)
 (hs:ev l s=.slice (some ⟨b,0,some 0⟩) 0 0:=by rfl) (hx:ev l x=.slice a 0 c:=by rfl) (hk:ax (pt b (.cells [])) kl kl':=by exact eU) (hn:Nat.blt d n=true:=by rfl) (hg:aT l g=true:=by rfl):
 R (λh=>aj P ds (⟨⟨some d,g,.append e size bytes s x⟩,[]⟩::rest) (act n l D pm ro) h K) B w0 kl F:=λw st=>by
 have st1:=st.dB hk;refine fJ hn hg (v:=.slice (some ⟨b,0,some 0⟩) 0 0) (h':=w.h.set b (.cells [])) ?_ (next ⟨w.h.set b (.cells []),w.z,λi hi=>w.eH i hi⟩ st1.write);have h0:∀m,Nat.mul 0 m=0:=λm=>qY m;have e1:w.h.storeAt b 0 []=some (w.h.set b (.cells [])):=by
  unfold IH.storeAt;simp only[st1.get.1];rfl
 simp only[ai.run,hx,hs,gM,mU,lI];show cond (Nat.ble (Nat.mul (Nat.add 0 0) bytes) small&&Nat.ble (Nat.mul (Nat.add 0 0) size) small&&Nat.ble (Nat.add 0 0) small) (cond (Nat.ble (Nat.add 0 0) 0) (match w.h.storeAt b (Nat.add 0 (Nat.mul 0 size)) []with|some h=>some (Value.slice (some ⟨b,0,some 0⟩) (Nat.add 0 0) 0,h)|none=>none) _) none=_;rw[show Nat.add 0 0=0 from rfl,h0,h0,show Nat.add 0 0=0 from rfl,e1];have:(Nat.ble 0 small&&Nat.ble 0 small&&Nat.ble 0 small)=true:=rfl;rw[this];rfl
theorem NB{α:Type}{e:TypeId}{size bytes b:Nat}{s x:Operand}(E:Enc α)(aa:List (α×E.Y))(hne:0<aa.length)(hm:aa.length*bytes<=1073741824/\aa.length*size<=1073741824/\aa.length<=1073741824)
 (next:∀b',R (λh=>aj P ds rest (act n ((d,.slice (some ⟨b',0,some size⟩) aa.length aa.length)::l) D pm ro) h K) B w0 (pt b' (.cells (aL E aa))::kl') F)
 (hs:ev l s=.slice (some ⟨b,0,some 0⟩) 0 0:=by rfl) (hx:ev l x=v:=by conv=>lhs;whnf) (hf:nL E v aa∈F:=by exact mo) (hz:E.n=size:=by rfl) (hk:ax (pt b (.cells [])) kl kl':=by exact eU) (hn:Nat.blt d n=true:=by rfl) (hg:aT l g=true:=by rfl):
 R (λh=>aj P ds (⟨⟨some d,g,.append e size bytes s x⟩,[]⟩::rest) (act n l D pm ro) h K) B w0 kl F:=λw st=>by
 subst hz;have st1:=st.dB hk;have hat:At w.h b (.cells []):=st.at_ hk;obtain⟨k,hk'⟩:∃k,aa.length=k+1:=⟨aa.length - 1,by omega⟩
 rcases st.facts _ hf with⟨rfl,_⟩|⟨i,o,f,c,cells,⟨e1,hc⟩,q2,q3⟩
 ·simp at hne
 have hfl:=lc aa;have hcells:∀j,j<aa.length*E.n->cells[o+j]? =(aL E aa)[j]?:=λj hj=>by
  have hn0:0<E.n:=by
   rcases o9 E.n with h0|h0
   ·rw[h0]at hj;omega
   ·exact h0
  have hd:j/E.n<aa.length:=by rw[xW hn0];exact hj
  have hmod:=lF j hn0;have hpk:=aU hd;have hu:(E.pat (aa[j/E.n]).1 (aa[j/E.n]).2)[j%E.n]? =some ((E.pat (aa[j/E.n]).1 (aa[j/E.n]).2)[j%E.n]'(by rw[E.len];exact hmod)):=aU _;have h1:=(q3 (j/E.n) _ hpk).1 (j%E.n) _ hu;have h2:=oU hpk hu;have kv:j/E.n*E.n+j%E.n=j:=by rw[nQ];exact xX j E.n
  rw[iD,kv]at h1;rw[kv]at h2;rw[h1,h2]
 have hlen:o+aa.length*E.n<=cells.length\/aa.length*E.n=0:=by
  rcases o9 (aa.length*E.n)with h0|h0
  ·exact .inr h0
  ·left;have h1:=hcells (aa.length*E.n - 1) (by omega);have hx0:(aL E aa)[aa.length*E.n - 1]? =some ((aL E aa)[aa.length*E.n - 1]'(by omega)):=aU _;rw[hx0]at h1;have:=(bH.1 h1).1;omega
 have hpos:0<E.n\/E.n=0:=by omega
 have hread:w.h.bI i o (aa.length*E.n)=some (aL E aa):=by
  rw[q2.cells.bI,gB,gD,if_pos (by rw[gq];omega)];congr 1;apply gX;intro j;rw[jM];by_cases hj:j<aa.length*E.n
  ·rw[if_pos hj,gK];exact hcells j hj
  ·rw[if_neg hj,dF (by omega)]
 refine zP (b:=b) (o:=0) (m:=0) (k:=k) (f:=some 0) (old:=[]) (xs:=aL E aa) hn hg hs (by rw[hx,e1,hk'];rfl) ?_ ?_ (.inl rfl) ?_ λh' mv=>?_
 ·rw[hx,e1,<- hk'];exact hread
 ·rw[hat.c.bI,qY];rfl
 ·rw[dU,<- hk'];omega
 obtain⟨w',rfl,fT,qy⟩:=st1.move mv;rw[jr]at fT;have:=next w.h.next w' fT
 rw[hk']at this;rw[dU];exact this
end
end Go.Ideal
namespace Go.Ideal
variable {P:Program}
inductive Al(P:Program)(ty:TypeId):Value->Value->Bool->Prop
 |int {a b:Int} (h:P.underlying ty=some (.int .i64)):Al P ty (.int .i64 a) (.int .i64 b) (decide (a=b))
 |str {a b:ByteArray} (h:P.underlying ty=some .string):Al P ty (.string a) (.string b) (decide (a=b))
inductive Am(P:Program)(xs ys:List Value):List Field->Bool->Prop
 |nil:Am P xs ys [] true
 |cons {f:Field} {fs:List Field} {a b:Value} {r r':Bool} (hn:(f.name== "_")=false) (hx:xs[f.offset]? =some a) (hy:ys[f.offset]? =some b) (c:Al P f.type a b r) (t:Am P xs ys fs r'):Am P xs ys (f::fs) (r&&r')
section
variable {l:List (Nat×Value)}
end
