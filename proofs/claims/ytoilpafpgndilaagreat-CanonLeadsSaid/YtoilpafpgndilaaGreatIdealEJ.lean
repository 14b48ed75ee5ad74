/- Part. -/
import Derived.Test.YtoilpafpgndilaaGreatIdealCJ
import Derived.Orders
set_option linter.all false
namespace Go.Ideal
variable {P:Program}
def Xq{α γ:Type}{f:α->ak γ}{x:α}{l:ae α}{r:ae γ}(h:(x::l).mapM f=some r):∃y r',f x=some y/\l.mapM f=some r'/\r=y::r':=by
 simp only[List.mapM_cons]at h;cases hx:f x with
 |none=>rw[hx]at h;cases h
 |some y=>
  rw[hx]at h;cases hl:l.mapM f with
  |none=>rw[hl]at h;cases h
  |some r'=>
   rw[hl]at h;simp only[Option.bind_eq_bind,iL,Option.pure_def,aN]at h;exact⟨y,r',rfl,rfl,h.symm⟩
def Cm(i j:Nat):Bool:=decide (j<i)
def afQ(ops:Array Oper):∀(os:ae Oper) (k:Nat) (done:ae Nat) (l:ae bN),ops.toList.drop k=os->(∀j,j∈done↔j<k)->
 (os.mapM λo=>(Ia P ops o).map λs=>(⟨s,[]⟩:bN))=some l->k+os.length=ops.size->Ck P ops Cm (λ_=>true) (List.range' k os.length) done l:=by
 intro os;induction os with
 |nil=>
  intro k done l _ hd hm hk;simp only[List.mapM_nil,Option.pure_def,aN]at hm;exact⟨hm.symm,λi hi=>(hd i).2 AN⟩
 |cons o os ih=>
  intro k done l hdrop hd hm hk;obtain⟨p,r,h1,h2,rfl⟩:=Xq hm;have hlt:k<ops.size:=AN
  have hko:ops[k]? =some o:=by
   have:(ops.toList.drop k)[0]? =some o:=by rw[hdrop];rfl
   rw[jU]at this;simpa using this
  cases hs:Ia P ops o with
  |none=>rw[hs]at h1;cases h1
  |some s=>
   rw[hs]at h1;simp only[lq,aN]at h1;subst h1;have hbef:∀j∈done,Cm k j=true:=λj hj=>by have:=(hd j).1 hj;simpa[Cm]using this
   have hstep:x9 ops Cm (λ_=>true) done k:=
    {lt:=hlt,new:=λhc=>(by have:=(hd k).1 hc;omega),pre:=λj hj=>(hd j).2 (by simpa[Cm]using hj)
     heavy:=λ_=>⟨λj hj _=>hbef j hj,λj _ hj=>(by cases hj)⟩
     own:=λhc=>(by cases hc)
     put:=λo' d _ _ j hj p _ _=>⟨rfl,hbef j hj⟩
     look:=λo' _ j hj p _ d _ _=>hbef j hj}
   refine⟨hstep,s,[],r,rfl,by simp[lQ,hko,hs],λhc=>(by cases hc),λ_ j _ hj=>(by cases hj),?_⟩;refine ih (k+1) (k::done) r ?_ (λj=>?_) h2 AN
   .rw[<- List.drop_drop,hdrop];rfl
   .rw[bH,hd];omega
def afR(n:Nat)(ops:Array Oper)(hn:ops.size=n):∀(m k:Nat) (S:ae Nat),k+m=n->(∀j,j∈S↔j<k)->yc ops Cm S (List.range' k m):=by
 intro m;induction m with
 |zero=>intro k S hk hS i hi wQ;exact absurd ((hS i).2 s6) wQ
 |succ m ih=>
  intro k S hk hS;refine⟨s6,λhc=>by have:=(hS k).1 hc;omega,λj hj=>(hS j).2 (by simpa[Cm]using hj),?_⟩;refine ih (k+1) (k::S) s6 λj=>?_;rw[bH,hS];omega
def direct(ops:Array Oper)(i j:Nat):Prop:=∃o,ops[i]? =some o/\∃e∈o.after.toList,Region.binds .any e=true/\e.on=j
def afS(look:Nat->Nat)(j:Nat):∀(l:ae Edge) (s:Nat),(l.foldl (λs e=>if Region.binds .any e then s|||2^e.on|||look e.on else s) s).testBit j=true↔
 s.testBit j=true\/∃e∈l,Region.binds .any e=true/\(e.on=j\/(look e.on).testBit j=true):=by
 intro l;induction l with
 |nil=>intro s;simp
 |cons e l ih=>
  intro s;simp only[nC];rw[ih];cases hb:Region.binds .any e with
  |false=>simp[hb]
  |true=>
   simp only[if_true,Nat.testBit_or,xM,Nat.testBit_two_pow,z8,bH,exists_eq_or_imp,hb,true_and];constructor
   .rintro((h|h)|h)
    .rcases h with h|h
     .exact .inl h
     .exact .inr (.inl (.inl h))
    .exact .inr (.inl (.inr h))
    .exact .inr (.inr h)
   .rintro(h|(h|h)|h)
    .exact .inl (.inl (.inl h))
    .exact .inl (.inl (.inr h))
    .exact .inl (.inr h)
    .exact .inr h
def afT(l:ae Oper):∀(A:Array Nat),let B:=l.foldl (λ(acc:Array Nat) o=>acc.push (o.after.foldl (λs e=>if Region.binds .any e then s|||2^e.on|||acc.getD e.on 0 else s) 0)) A
 B.size=A.size+l.length/\(∀i,i<A.size->B.getD i 0=A.getD i 0)/\∀(i:Nat) o,l[i]? =some o->∃look:Nat->Nat,B.getD (A.size+i) 0=o.after.toList.foldl (λs e=>if Region.binds .any e then s|||2^e.on|||look e.on else s) 0/\∀k,look k=if k<A.size+i then B.getD k 0 else 0:=by
 induction l with
 |nil=>intro A;exact⟨rfl,λ_ _=>rfl,λi o h=>by simp at h⟩
 |cons o l ih=>
  intro A;simp only[nC];let v:=o.after.foldl (λs e=>if Region.binds .any e then s|||2^e.on|||A.getD e.on 0 else s) 0
  obtain⟨h1,h2,h3⟩:=ih (A.push v);refine⟨by rw[h1];simp;omega,λi hi=>?_,λi o' ho'=>?_⟩
  .rw[h2 i tc];simp[wz,KF,show i≠A.size by omega]
  .cases i with
   |zero=>
    simp only[Dy,aN]at ho';subst ho';refine⟨λk=>A.getD k 0,?_,λk=>?_⟩
    .rw[xL,h2 A.size s7];have:(A.push v).getD A.size 0=v:=by simp[wz]
     rw[this];show o.after.foldl _ 0=_;rw[<- VI]
    .simp only[xL];by_cases hk:k<A.size
     .rw[if_pos hk,h2 k tc];simp[wz,KF,show k≠A.size by omega]
     .rw[if_neg hk];simp[wz,uX (Nat.le_of_not_lt hk)]
   |succ i=>
    obtain⟨look,q1,q2⟩:=h3 i o' (by simpa using ho');refine⟨look,?_,λk=>?_⟩
    .rw[<- q1];simp only[Array.size_push];congr 1;omega
    .rw[q2];simp only[Array.size_push];by_cases hk:k<A.size+1+i
     .rw[if_pos hk,if_pos s6]
     .rw[if_neg hk,if_neg s6]
def QC(ops:Array Oper)(i j:Nat)(hi:i<ops.size):uk ops i j=true↔direct ops i j\/∃k,direct ops i k/\k<i/\uk ops k j=true:=by
 obtain⟨_,_,h3⟩:=afT ops.toList #[];simp only[Array.size_empty,eB,List.size_toArray,wB]at h3;obtain⟨look,q1,q2⟩:=h3 i ops[i] wq;have hB:Region.before ops=ops.toList.foldl (λ(acc:Array Nat) o=>acc.push (o.after.foldl (λs e=>if Region.binds .any e then s|||2^e.on|||acc.getD e.on 0 else s) 0)) #[]:=by
  unfold Region.before;rw[<- VI]
 rw[<- hB]at q1 q2;show((Region.before ops).getD i 0).testBit j=true↔direct ops i j\/∃k,direct ops i k/\k<i/\((Region.before ops).getD k 0).testBit j=true;rw[q1,afS];simp only[Nat.zero_testBit,ww,false_or];have ho:ops[i]? =some ops[i]:=wq
 constructor
 .rintro⟨e,he,hb,h|h⟩
  .exact .inl ⟨_,ho,e,he,hb,h⟩
  .rw[q2]at h;split at h
   .rename_i hlt;exact .inr ⟨e.on,⟨_,ho,e,he,hb,rfl⟩,hlt,h⟩
   .simp at h
 .rintro(⟨o,ho',e,he,hb,rfl⟩|⟨k,⟨o,ho',e,he,hb,rfl⟩,hk,h⟩)
  .rw[ho]at ho';cases ho';exact⟨e,he,hb,.inl rfl⟩
  .rw[ho]at ho';cases ho';exact⟨e,he,hb,.inr (by rw[q2,if_pos hk];exact h)⟩
end Go.Ideal
namespace Go.Ideal
variable {P:Program}
variable{ops:Array Oper}{done:ae Nat}
def Xr{i:Nat}(hi:i<ops.size):DV ops done i=true↔i∉done/\∀j,direct ops i j->j∈done:=by
 have ho:ops[i]? =some ops[i]:=wq
 unfold DV;simp only[ho,eP,DC,jy,xM];constructor
 .rintro⟨h1,h2⟩;refine⟨λhc=>by simp[hc]at h1,?_⟩;rintro j ⟨o,ho',e,he,hb,rfl⟩;rw[ho]at ho';cases ho';rcases h2 e he with h|h
  .rw[hb]at h;cases h
  .simpa using h
 .rintro⟨h1,h2⟩;refine⟨by simpa using h1,λe he=>?_⟩;cases hb:Region.binds .any e with
  |false=>exact .inl rfl
  |true=>exact .inr (by simpa using h2 e.on ⟨_,ho,e,he,hb,rfl⟩)
def closed(ops:Array Oper)(done:ae Nat):Prop:=∀k∈done,∀j,uk ops k j=true->j∈done
def Xt(hcl:closed ops done){i:Nat}(hi:i<ops.size)(hd:∀j,direct ops i j->j∈done):∀j,uk ops i j=true->j∈done:=λj hj=>by
 rcases(QC ops i j hi).1 hj with h|⟨k,h1,_,h2⟩
 .exact hd j h
 .exact hcl k (hd k h1) j h2
def afU(ops:Array Oper):∀(rest done:ae Nat) (l:ae bN),Ib ops (uk ops) (Cb P ops) rest done=true->Ic (uk ops) (lQ P ops) rest done=some l->closed ops done->
 Ck P ops (uk ops) (Cb P ops) rest done l:=by
 intro rest;induction rest with
 |nil=>
  intro done l ho hp _;simp only[Ic,aN]at hp;refine⟨hp.symm,λi hi=>?_⟩;simp only[Ib,jy,sF]at ho;simpa using ho i hi
 |cons i rest ih=>
  intro done l ho hp hcl;simp only[Ib,eP]at ho;obtain⟨hs,ho⟩:=ho;simp only[Ic]at hp;split at hp
  .rename_i s r hcs hr;simp only[aN]at hp;subst hp;obtain⟨o,hoi,iC,hdst,_⟩:=qM hcs;have hlt:i<ops.size:=(Pj.1 hoi).1;have Xu:Cb P ops i=heavy s.op:=by simp[Cb,hcs]
   unfold Wo at hs;rw[hoi]at hs;simp only[eP]at hs;obtain⟨⟨⟨s1,s2⟩,s3⟩,s4⟩:=hs;obtain⟨r1,r2⟩:=(Xr hlt).1 s1;have hpre:=Xt hcl hlt r2;have hstep:x9 ops (uk ops) (Cb P ops) done i:=
    {lt:=hlt,new:=r1,pre:=hpre
     heavy:=λhv=>by
      rw[hv]at s2;simp only[Bool.not_true,Bool.false_or,eP,jy,xM,DC,sF]at s2;refine⟨λj hj LB=>(s2.1 j hj).resolve_left (by rw[LB];simp),λj hj LB hjd=>?_⟩;have hnr:=(s2.2 j hj).resolve_left (by rw[LB];simp);refine Classical.byContradiction λhno=>?_;have:DV ops done j=true:=(Xr hj).2 ⟨hjd,λk hk=>Decidable.byContradiction λhkd=>hno ⟨k,(QC ops j k hj).2 (.inl hk),hkd⟩⟩;rw[this]at hnr;cases hnr
     own:=λhv o' d ho' hd=>by
      rw[hoi]at ho';cases ho';rw[hd]at s3;simp only[hv,Bool.false_or,eP,DC]at s3;intro hc;have:=s3.1;rw[KN.2 hc]at this;cases this
     put:=λo' d ho' hd j hj p hp' hc=>by
      rw[hoi]at ho';cases ho';rw[hd]at s3;simp only[eP,jy]at s3;have:=s3.2 j hj;rw[hp']at this;simp only at this;rw[if_pos (by
       simp only[xM];rcases hc with h|h
       .exact .inl (KN.2 h)
       .exact .inr (by rw[h];simp))]at this
      simpa using this
     look:=λo' ho' j hj p hp' d hd hdl=>by
      rw[hoi]at ho';cases ho';simp only[jy]at s4;have:=s4 j hj;rw[hp']at this;simp only[hd]at this;rw[if_pos (KN.2 hdl)]at this;exact this}
   have Xv:closed ops (i::done):=λk hk j hj=>by
    exact od
   refine⟨hstep,s,_,r,rfl,hcs,λhv=>by rw[<- Xu];exact hv,λhv j hj LB hb t ht hrd=>?_,ih (i::done) r ho hr Xv⟩;rw[Xu]at hv;rw[if_pos hv];refine KM.2 ⟨j,hj,?_⟩;rw[ht];simp only[hrd,hb,Pg,Pk,if_true]
  .cases hp
def afV(ops:Array Oper):∀(fuel t:Nat) (listed:Array Bool) (S:ae Nat),listed.size=ops.size->(∀j,j∈S↔listed.getD j false=true)->listed.countP (λb=>!b)<=fuel->closed ops S->
 yc ops (uk ops) S (Region.linearise.go .any ops fuel t listed []):=by
 intro fuel;induction fuel with
 |zero=>
  intro t listed S hsz hS hc _;simp only[Region.linearise.go,Pm];intro i hi wQ
  exfalso
  apply wQ;rw[hS];have h0:listed.countP (λb=>!b)=0:=s6
  rw[Array.countP_eq_zero]at h0;have hlt:i<listed.size:=s6
  have:=h0 listed[i] (Array.getElem_mem hlt);simp[hlt];simpa using this
 |succ fuel ih=>
  intro t listed S hsz hS hc hcl;simp only[Region.linearise.go];have hrd:∀i,i∈Region.ready .any ops listed↔i<ops.size/\i∉S/\∀j,direct ops i j->j∈S:=by
   intro i;rw[mem_ready];constructor
   .rintro⟨h1,o,ho,h2⟩;have hlt:i<ops.size:=(Pj.1 ho).1;refine⟨hlt,λwQ=>?_,?_⟩
    .rw[hS]at wQ;have hl:i<listed.size:=by omega
     simp[hl]at h1 wQ;rw[h1]at wQ;cases wQ
    .rintro j ⟨o',ho',e,he,hb,rfl⟩;rw[ho]at ho';cases ho';rw[hS];exact h2 e (by simpa using he) hb
   .rintro⟨h1,h2,h3⟩;refine⟨?_,ops[i],by simp[h1],λe he hb=>?_⟩
    .rw[hS]at h2;have hl:i<listed.size:=by omega
     simp[hl]at h2⊢;exact h2
    .rw[<- hS];exact h3 e.on ⟨ops[i],by simp[h1],e,by simpa using he,hb,rfl⟩
  change yc ops (uk ops) S (match (Region.ready .any ops listed)[t%(Region.ready .any ops listed).length]? with
   |some i=>Region.linearise.go .any ops fuel (t/(Region.ready .any ops listed).length) (listed.setIfInBounds i true) [i]
   |none=>[].reverse)
  cases hi:(Region.ready .any ops listed)[t%(Region.ready .any ops listed).length]? with
  |none=>
   have hnil:Region.ready .any ops listed=[]:=by
    cases hr:Region.ready .any ops listed with
    |nil=>rfl
    |cons x xs=>
     rw[hr]at hi;have hlt:t%(x::xs).length<(x::xs).length:=wu _ s7;simp at hi;simp at hlt;omega
   show yc ops (uk ops) S [];intro i hilt wQ;have hnr:i∉Region.ready .any ops listed:=by rw[hnil];simp
   rw[hrd]at hnr;refine Classical.byContradiction λhno=>hnr ⟨hilt,wQ,λj hj=>Decidable.byContradiction λhjS=>hno ⟨j,(QC ops i j hilt).2 (.inl hj),hjS⟩⟩
  |some i=>
   simp only;rw[linearise_go_acc,List.reverse_singleton,List.singleton_append];obtain⟨h1,h2,h3⟩:=(hrd i).1 (aT hi);have hpre:=Xt hcl h1 h3;have hl:i<listed.size:=s6
   refine⟨h1,h2,hpre,ih _ _ _ (by simpa using hsz) (λj=>?_) ?_ ?_⟩
   .rw[bH,hS];by_cases e:j=i
    .subst e;simp[hl]
    .simp[e,KH (Ne.symm e)]
   .have hfalse:listed[i]=false:=by
     rw[hS]at h2;simp[hl]at h2;exact h2
    have:(listed.setIfInBounds i true).countP (λb=>!b)=listed.countP (λb=>!b) - 1:=by
     have:=Array.countP_set (p:=λb=>!b) (a:=true) hl;rw[Array.setIfInBounds,dif_pos hl,this];simp[hfalse]
    have hpos:0<listed.countP (λb=>!b):=by
     rw[Array.countP_pos_iff];exact⟨listed[i],Array.getElem_mem hl,by simp[hfalse]⟩
    omega
   .intro k hk j hj;exact od
def afX(sN:P.follows .mixedOrders=true){ds:ae Tmp}{l:ae bN}{a:bi}{h:IH}{K:KO}(hM:qx P ds l a h K):nL P (.ops ds l) a h K:=by
 intro code it hcode hst β w b tm df k cs hG hW hA hcx;cases code<;>simp only[compile,reduceCtorEq]at hcode
 case rangeFunc f ps x y=>split at hcode<;>cases hcode
 case region id ops draw=>
  obtain rfl:it=.code (.region id ops draw):=hst.resolve_right (by rintro⟨_,h1,_⟩;cases h1);have hinv:∀(bR:Nat->Nat->Bool) (hv:Nat->Bool) (w':World),w'.heap=w.heap->w'.os=w.os->w'.tape=w.tape->w'.output=w.output->w.drawn<=w'.drawn->Inv P ops hv bR β h w [] [] β a h w' tm df:=λbR hv w' e1 e2 e3 e4 e5=>
   {wN:=trivial,sub:=λi hi=>by simp at hi,IQ:=λi hi=>by simp at hi
    pend:=⟨λ_=>0,λi hi=>by simp at hi,λi j hi=>by simp at hi⟩
    act:=⟨hA.size,λi _=>hA.tmps i λhh=>hh,hA.out,hA.defers⟩
    wr:=hW.qK e1,wO:=Eff.qK hW.dom e1 e2 e3 e4 e5}
  have hdst:∀(i:Nat) o d,ops[i]? =some o->o.dst=some d->d∈dstsOf ops:=λi o d ho hd=>KM.2 ⟨o,by simpa using Array.mem_of_getElem? ho,hd⟩;unfold K8 at hcode;cases draw with
  |false=>
   simp only[ww,if_false]at hcode;split at hcode
   .rename_i l' hl;simp only[dz.ops.injEq]at hcode;obtain⟨rfl,rfl⟩:=hcode;have hp:=afQ (P:=P) ops ops.toList 0 [] l' s7 s7 hl s7;have hr:=afR ops.size ops rfl ops.size 0 [] s6 s7;refine .of_steps (.one afb) (hM ops Cm (λ_=>true) _ [] [] hp hdst β h w a.pm a.ro cs β w b tm df k cs (List.range ops.size) hG hW.dom hcx (hinv _ _ w rfl rfl rfl rfl (aZ _)) ?_ hcx.start rfl);rw[List.range_eq_range'];exact hr
   .cases hcode
  |true=>
   simp only[if_true]at hcode;split at hcode
   .rename_i l' hl;simp only[dz.ops.injEq]at hcode;obtain⟨rfl,rfl⟩:=hcode;unfold Wp at hl;simp only at hl;split at hl
    .rename_i hok;have hp:=afU (P:=P) ops _ [] l' hok hl (λk hk=>by simp at hk);refine .of_steps (.one afc) (hM ops (uk ops) (Cb P ops) _ [] [] hp hdst β h w a.pm a.ro cs β {w with drawn:=w.drawn+1} b tm df k cs _ hG hW.dom hcx (hinv _ _ {w with drawn:=w.drawn+1} rfl rfl rfl rfl (Dw _)) ?_ hcx.start rfl);simp only[Region.schedule,sN,Bool.true_or,if_true,Region.linearise];refine afV ops _ _ _ [] s7 (λj=>?_) ?_ (λk hk=>by simp at hk)
     .simp only[Ab,false_iff];intro hc;by_cases hj:j<ops.size
      .simp[hj]at hc
      .simp[hj]at hc
     .simpa using Array.countP_le_size (xs:=Array.replicate ops.size false) (p:=λb=>!b)
    .cases hl
   .cases hcode
end Go.Ideal
namespace Go.Ideal
variable {P:Program}
def Qw.code{code:Code}{it:Item}(h:Qw code it)(hn:∀body,code≠.loop body):it=.code code:=h.resolve_right (by rintro⟨b,h1,_⟩;exact hn b h1)
def AB{ops:Array Oper}{draw:Bool}{c:dz}(h:K8 P ops draw=c):(∃ds l,c=.ops ds l)\/c=.fail:=by
 unfold K8 at h;split at h
 .exact .inl ⟨_,_,h.symm⟩
 .exact .inr h.symm
def Post.after{β0:aJ}{h0:IH}{w0:World}{kW:ak FrameMode}{jX:ak Nat}{b:Frame}{cs0 cs1:ae Frame}{k:ae Item}{K:KO}{M:Machine}{β1:aJ}{h1:IH}{w1:World}{Xw:ak FrameMode}
 (he:Eff β0 h0 w0 β1 h1 w1) (hc:qw β1 kW Xw cs0 cs1) (hp:Post P β1 h1 w1 Xw jX b cs1 k K M):Post P β0 h0 w0 kW jX b cs0 k K M:=by
 obtain⟨o,a',h',β',w',tm',iw,cs',q1,q2,q3,q4,q5,q6,q7⟩:=hp;exact⟨o,a',h',β',w',tm',iw,cs',q1,q2,he.trans q3,q4,hc.trans q5,q6,q7⟩
section
variable {a:bi} {h:IH} {K:KO}
def afY(hk:K .normal a h):nL P .skip a h K:=by
 intro code it hcode hst β w b tm df k cs hG hW hA hcx;cases code<;>simp only[compile,reduceCtorEq]at hcode
 case skip=>
  obtain rfl:=hst.code s7;exact⟨.normal,a,h,β,w,tm,df,cs,hk,hW,Eff.refl _ _ _ hW.dom,hA,hcx.start,rfl,.one ae1⟩
 case label l=>
  obtain rfl:=hst.code s7;exact⟨.normal,a,h,β,w,tm,df,cs,hk,hW,Eff.refl _ _ _ hW.dom,hA,hcx.start,rfl,.one ae2⟩
 case region id ops draw=>rcases AB hcode with⟨_,_,h1⟩|h1<;>cases h1
 case rangeFunc f ps x y=>split at hcode<;>cases hcode
variable{x y:dz}
def afZ(M:KO)(h1:nL P x a h M)(h2:∀a' h',M .normal a' h'->nL P y a' h' K)(h3:∀o a' h',M o a' h'->o≠.normal->K o a' h'):nL P (.seq x y) a h K:=by
 intro code it hcode hst β w b tm df k cs hG hW hA hcx;cases code<;>simp only[compile,reduceCtorEq]at hcode
 case region id ops draw=>rcases AB hcode with⟨_,_,h1⟩|h1<;>cases h1
 case rangeFunc f ps x y=>split at hcode<;>cases hcode
 case seq cx cy=>
  simp only[dz.seq.injEq]at hcode;obtain⟨I1,hcy⟩:=hcode;obtain rfl:=hst.code s7;obtain⟨o,a',h',β',w',tm',iw,cs',q1,q2,q3,q4,q5,q6,q7⟩:=h1 cx _ I1 (.inl rfl) β w b tm df (.code cy::k) cs hG hW hA hcx;have hle:=q3.le hW.dom;cases o with
  |normal=>
   have:=h2 a' h' q1 cy _ hcy (.inl rfl) β' w' b tm' iw k cs' (hG.le hle) q2 q4 C4;rw[q6]at this;exact .of_steps ((Steps.one Lr).trans q7) (this.after q3 q5)
  |exit id=>
   obtain⟨todo,e1,e2⟩:=q7;exact⟨_,a',h',β',w',tm',iw,cs',h3 _ _ _ q1 s7,q2,q3,q4,q5,q6,todo,e1.trans (by simp[exitTo]),(Steps.one Lr).trans e2⟩
  |ret=>
   obtain⟨todo,e2⟩:=q7;exact⟨_,a',h',β',w',tm',iw,cs',h3 _ _ _ q1 s7,q2,q3,q4,q5,q6,todo,(Steps.one Lr).trans e2⟩
  |panic ch=>
   obtain⟨todo,ch',e1,e2⟩:=q7;exact⟨_,a',h',β',w',tm',iw,cs',h3 _ _ _ q1 s7,q2,q3,q4,q5,q6,todo,ch',e1,(Steps.one Lr).trans e2⟩
def af0{β:aJ}{tm:Array ah}{df:ae Deferred}(hA:AR β none' a tm df){c:ay}{t:Bool}(hc:a.eval c=.bool t):Act.eval ⟨tm,df⟩ c=.bool t:=by
 cases c with
 |tmp i=>
  have:=hA.tmps i (λhh=>hh);have hc':dS a.tmps i=.bool t:=hc;rw[hc']at this;exact this.Lh
 |const v=>exact hc
 |global g=>cases hc
 |func f=>cases hc
def Xx{c:ay}{t:Bool}(hc:a.eval c=.bool t)(h1:nL P (if t then x else y) a h K):nL P (.cond c x y) a h K:=by
 intro code it hcode hst β w b tm df k cs hG hW hA hcx;cases code<;>simp only[compile,reduceCtorEq]at hcode
 case region id ops draw=>rcases AB hcode with⟨_,_,h1⟩|h1<;>cases h1
 case rangeFunc f ps x y=>split at hcode<;>cases hcode
 case cond c' cx cy=>
  simp only[dz.cond.injEq]at hcode;obtain⟨rfl,I1,hcy⟩:=hcode;obtain rfl:=hst.code s7;refine .of_steps (.one (ae7 (af0 hA hc))) (h1 (if t then cx else cy) _ ?_ (.inl rfl) β w b tm df k cs hG hW hA hcx);cases t
  .exact hcy
  .exact I1
variable{c:dz}{id:Nat}
def af1(M:KO)(h1:nL P c a h M)(h2:∀o a' h',M o a' h'->K (inBlock id o) a' h'):nL P (.block id c) a h K:=by
 intro code it hcode hst β w b tm df k cs hG hW hA hcx;cases code<;>simp only[compile,reduceCtorEq]at hcode
 case region id ops draw=>rcases AB hcode with⟨_,_,h1⟩|h1<;>cases h1
 case rangeFunc f ps x y=>split at hcode<;>cases hcode
 case block id' cx=>
  simp only[dz.block.injEq]at hcode;obtain⟨rfl,I1⟩:=hcode;obtain rfl:=hst.code s7;obtain⟨o,a',h',β',w',tm',iw,cs',q1,q2,q3,q4,q5,q6,q7⟩:=h1 cx _ I1 (.inl rfl) β w b tm df (.inBlock id'::k) cs hG hW hA hcx;have hk:=h2 o a' h' q1;cases o with
  |normal=>exact⟨.normal,a',h',β',w',tm',iw,cs',hk,q2,q3,q4,q5,q6,((Steps.one IL).trans q7).trans (.one ae3)⟩
  |exit j=>
   obtain⟨todo,e1,e2⟩:=q7;cases hb:Nat.beq j id' with
   |true=>
    have hj:j=id':=tZ hb;subst hj;have hk':K .normal a' h':=by
     have:inBlock j (.exit j)=.normal:=by simp only[inBlock,hb,cond_true]
     rw[this]at hk;exact hk
    have he:exitTo j todo=some k:=by rw[e1];simp[exitTo]
    exact⟨.normal,a',h',β',w',tm',iw,cs',hk',q2,q3,q4,q5,q6,((Steps.one IL).trans e2).trans (.one (ae8 he))⟩
   |false=>
    have hj:j≠id':=Hz hb;have hk':K (.exit j) a' h':=by
     have:inBlock id' (.exit j)=.exit j:=by simp only[inBlock,hb,cond_false]
     rw[this]at hk;exact hk
    exact⟨.exit j,a',h',β',w',tm',iw,cs',hk',q2,q3,q4,q5,q6,todo,e1.trans (by simp[exitTo,Ne.symm hj]),(Steps.one IL).trans e2⟩
  |ret=>
   obtain⟨todo,e2⟩:=q7;exact⟨.ret,a',h',β',w',tm',iw,cs',hk,q2,q3,q4,q5,q6,todo,(Steps.one IL).trans e2⟩
  |panic ch=>
   obtain⟨todo,ch',e1,e2⟩:=q7;exact⟨.panic ch,a',h',β',w',tm',iw,cs',hk,q2,q3,q4,q5,q6,todo,ch',e1,(Steps.one IL).trans e2⟩
def af2(M:KO)(h1:nL P c a h M)(h2:∀a' h',M .normal a' h'->nL P (.loop c) a' h' K)(h3:∀o a' h',M o a' h'->o≠.normal->K o a' h'):nL P (.loop c) a h K:=by
 intro code it hcode hst β w b tm df k cs hG hW hA hcx;cases code<;>simp only[compile,reduceCtorEq]at hcode
 case region id ops draw=>rcases AB hcode with⟨_,_,h1⟩|h1<;>cases h1
 case rangeFunc f ps x y=>split at hcode<;>cases hcode
 case loop cx=>
  simp only[dz.loop.injEq]at hcode;have hstep:step P (lone (fr b tm df (it::k)) cs w)=.next (lone (fr b tm df (.code cx::.inLoop cx::k)) cs w):=by
   rcases hst with rfl|⟨body,hb,rfl⟩
   .exact ae5
   .simp only[Code.loop.injEq]at hb;subst hb;exact ae6
  obtain⟨o,a',h',β',w',tm',iw,cs',q1,q2,q3,q4,q5,q6,q7⟩:=h1 cx _ hcode (.inl rfl) β w b tm df (.inLoop cx::k) cs hG hW hA hcx;have hle:=q3.le hW.dom;cases o with
  |normal=>
   have:=h2 a' h' q1 (.loop cx) (.inLoop cx) (by simp[compile,hcode]) (.inr ⟨cx,rfl,rfl⟩) β' w' b tm' iw k cs' (hG.le hle) q2 q4 C4;rw[q6]at this;exact .of_steps ((Steps.one hstep).trans q7) (this.after q3 q5)
  |exit id=>
   obtain⟨todo,e1,e2⟩:=q7;exact⟨_,a',h',β',w',tm',iw,cs',h3 _ _ _ q1 s7,q2,q3,q4,q5,q6,todo,e1.trans (by simp[exitTo]),(Steps.one hstep).trans e2⟩
  |ret=>
   obtain⟨todo,e2⟩:=q7;exact⟨_,a',h',β',w',tm',iw,cs',h3 _ _ _ q1 s7,q2,q3,q4,q5,q6,todo,(Steps.one hstep).trans e2⟩
  |panic ch=>
   obtain⟨todo,ch',e1,e2⟩:=q7;exact⟨_,a',h',β',w',tm',iw,cs',h3 _ _ _ q1 s7,q2,q3,q4,q5,q6,todo,ch',e1,(Steps.one hstep).trans e2⟩
def af3(h1:nL P c a h K):nL P (.scope c) a h K:=by
 intro code it hcode hst β w b tm df k cs hG hW hA hcx;cases code<;>simp only[compile,reduceCtorEq]at hcode
 case region id ops draw=>rcases AB hcode with⟨_,_,h1⟩|h1<;>cases h1
 case rangeFunc f ps x y=>split at hcode<;>cases hcode
 case scope cx=>
  simp only[dz.scope.injEq]at hcode;obtain rfl:=hst.code s7;obtain⟨o,a',h',β',w',tm',iw,cs',q1,q2,q3,q4,q5,q6,q7⟩:=h1 cx _ hcode (.inl rfl) β w b tm df (.inScope cx::k) cs hG hW hA hcx;cases o with
  |normal=>exact⟨_,a',h',β',w',tm',iw,cs',q1,q2,q3,q4,q5,q6,((Steps.one Ls).trans q7).trans (.one ae4)⟩
  |exit id=>
   obtain⟨todo,e1,e2⟩:=q7;exact⟨_,a',h',β',w',tm',iw,cs',q1,q2,q3,q4,q5,q6,todo,e1.trans (by simp[exitTo]),(Steps.one Ls).trans e2⟩
  |ret=>
   obtain⟨todo,e2⟩:=q7;exact⟨_,a',h',β',w',tm',iw,cs',q1,q2,q3,q4,q5,q6,todo,(Steps.one Ls).trans e2⟩
  |panic ch=>
   obtain⟨todo,ch',e1,e2⟩:=q7;exact⟨_,a',h',β',w',tm',iw,cs',q1,q2,q3,q4,q5,q6,todo,ch',e1,(Steps.one Ls).trans e2⟩
def af4(hk:K (.exit id) a h):nL P (.exit id) a h K:=by
 intro code it hcode hst β w b tm df k cs hG hW hA hcx;cases code<;>simp only[compile,reduceCtorEq]at hcode
 case region id ops draw=>rcases AB hcode with⟨_,_,h1⟩|h1<;>cases h1
 case rangeFunc f ps x y=>split at hcode<;>cases hcode
 case exit j=>
  simp only[dz.exit.injEq]at hcode;subst hcode;obtain rfl:=hst.code s7;exact⟨_,a,h,β,w,tm,df,cs,hk,hW,Eff.refl _ _ _ hW.dom,hA,hcx.start,rfl,k,rfl,Steps.refl P _⟩
def af5(hk:K .ret a h):nL P .ret a h K:=by
 intro code it hcode hst β w b tm df k cs hG hW hA hcx;cases code<;>simp only[compile,reduceCtorEq]at hcode
 case region id ops draw=>rcases AB hcode with⟨_,_,h1⟩|h1<;>cases h1
 case rangeFunc f ps x y=>split at hcode<;>cases hcode
 case ret=>
  obtain rfl:=hst.code s7;exact⟨_,a,h,β,w,tm,df,cs,hk,hW,Eff.refl _ _ _ hW.dom,hA,hcx.start,rfl,k,Steps.refl P _⟩
def af6(a0:bi)(hw:∀i,dS a0.tmps i=dX\/dS a0.tmps i=dS a.tmps i)(hn:a0.n=a.n/\a0.defers=a.defers/\a0.pm=a.pm/\a0.ro=a.ro)(h1:nL P c a0 h K):nL P c a h K:=by
 intro code it hcode hst β w b tm df k cs hG hW hA hcx;obtain⟨n1,n2,n3,n4⟩:=hn;have Ee:AR β none' a0 tm df:=⟨by rw[n1];exact hA.size,λi hi=>by
  rcases hw i with e|e
  .rw[e];exact .dX _
  .rw[e];exact hA.tmps i hi,λi hi=>by
  rw[n1]at hi;rcases hw i with e|e
  .exact e
  .rw[e];exact hA.out i hi,by rw[n2];exact hA.defers⟩
 have:=h1 code it hcode hst β w b tm df k cs hG hW Ee (by rw[n3,n4];exact hcx);rw[n3,n4]at this;exact this
end
end Go.Ideal
namespace Go.Ideal
variable {P:Program}
def af7(ts:T ah)(h:IH)(r:ul)(l:ae ul):Ao ts h (r::l)=match wI ts h r,Ao ts h l with
 |some v,some vs=>some (v::vs)
 |_,_=>none:=rfl
def FX(tm:Array ah):ResultVar->Sem ah
 | .tmp t=>pure (tm.getD t undef)
 | .cell a t=>do loadVar t (<- asAddr (tm.getD a undef))
def af8(fn:Func)(tm:Array ah):results fn tm=(do
 let vs <- fn.results.mapM (FX tm)
 pure (if h:vs.size=1 then vs[0]else .tuple vs)):=by
 have:(λ(r:ResultVar)=>match r with
  | .tmp t=>(pure (tm.getD t undef):Sem ah)
  | .cell a t=>do loadVar t (<- asAddr (tm.getD a undef)))=FX tm:=by
  funext r;cases r<;>rfl
 rw[<- this];rfl
variable{β:aJ}{h:IH}{w:World}{ts:T ah}{tm:Array ah}
def af9(hW:WR P β h w)(ht:∀i,VR β (dS ts i) (tm.getD i undef)){r:ResultVar}{c:ul}(hc:Ie P r=some c){v:ah}(hv:wI ts h c=some v):
 ∃v',(FX tm r).run P w=.ok v' w/\VR β v v':=by
 cases r with
 |tmp t=>
  simp only[Ie,aN]at hc;subst hc;simp only[wI,aN]at hv;subst hv;exact⟨_,rfl,ht t⟩
 |cell a t=>
  simp only[Ie]at hc;split at hc
  .rename_i hagg;cases hs:kz P t with
   |none=>simp[hs]at hc
   |some n=>
    simp only[hs,lq,aN]at hc;subst hc;simp only[wI]at hv;split at hv
    .rename_i i o ha;have hx:=ht a;rw[ha]at hx;obtain⟨g,hg,hx'⟩:=hx.xZ;split at hv
     .rename_i cs hcs;simp only[aN]at hv;subst hv;obtain⟨blk,hb,hl⟩:=WB hcs;obtain⟨l1,l2,l',l3,l4⟩:=Lg hW hg (.inl hb) hl;obtain⟨d,hd⟩:=WA hagg;refine⟨.agg ⟨l'⟩,?_,.agg l2 l3⟩;have:=PT (P:=P) (n:=n) (by rw[l3.length,l1]) l4;simp only[FX,dM,hx',asAddr,fG,dR,loadVar,FK hd,hagg,pF hs,this,if_true]
     .cases hv
    .cases hv
  .rename_i hagg;split at hc
   .rename_i d hd;simp only[aN]at hc;subst hc;simp only[wI]at hv;split at hv
    .rename_i i o ha;have hx:=ht a;rw[ha]at hx;obtain⟨g,hg,hx'⟩:=hx.xZ;split at hv
     .rename_i cs hcs;obtain⟨_,_,_,_,_,h7⟩:=hW.obj i g _ hg hcs;rw[uw]at hv;obtain⟨v',q1,q2⟩:=h7 _ _ hv;have PY:kD P t=false:=by simpa using hagg
      refine⟨v',?_,q2⟩;simp only[FX,dM,hx',asAddr,fG,dR,loadVar,FK hd,PY,ww,if_false];simp[q1]
     .cases hv
    .cases hv
   .cases hc
def aga(hW:WR P β h w)(ht:∀i,VR β (dS ts i) (tm.getD i undef)):∀(rs:ae ResultVar) (cs:ae ul) (vs:ae ah),rs.mapM (Ie P)=some cs->Ao ts h cs=some vs->
 ∃vs',(rs.mapM (FX tm)).run P w=.ok vs' w/\aW β vs vs':=by
 intro rs;induction rs with
 |nil=>
  intro cs vs hc hv;simp only[List.mapM_nil,Option.pure_def,aN]at hc;subst hc;change some []=some vs at hv
  simp only[aN]at hv;subst hv;exact⟨[],rfl,.nil⟩
 |cons r rs ih=>
  intro cs vs hc hv;obtain⟨c,cs',h1,h2,rfl⟩:=Xq hc;rw[af7]at hv;split at hv
  .rename_i v vs1 hv1 agb;simp only[aN]at hv;subst hv;obtain⟨v',q1,q2⟩:=af9 hW ht h1 hv1;obtain⟨vs',q3,q4⟩:=ih cs' vs1 h2 agb;refine⟨v'::vs',?_,.cons q2 q4⟩;simp only[List.mapM_cons,dM,q1,dR,q3,fG]
  .cases hv
def agc(hW:WR P β h w)(ht:∀i,VR β (dS ts i) (tm.getD i undef)){fn:Func}{cf:iG}(hc:xS P fn=some cf){v:ah}(hv:uo cf.results ts h=some v):
 ∃v',(results fn tm).run P w=.ok v' w/\VR β v v':=by
 unfold xS at hc;split at hc
 .rename_i body rs hb hrs;split at hc
  .cases hc
  simp only[aN]at hc;subst hc;have key:∀vs,Ao ts h rs=some vs->∃vs',aW β vs vs'/\(results fn tm).run P w=.ok (if hh:(⟨vs'⟩:Array ah).size=1 then(⟨vs'⟩:Array ah)[0]else .tuple ⟨vs'⟩) w:=λvs hvs=>by
   obtain⟨vs',q1,q2⟩:=aga hW ht fn.results.toList rs vs hrs hvs;refine⟨vs',q2,?_⟩;rw[af8,Array.mapM_eq_mapM_toList];simp only[map_eq_pure_bind,bind_assoc,pure_bind,dM];rw[q1];simp only[dR,fG]
  unfold uo at hv;split at hv
  .rename_i v1 hvs;simp only[aN]at hv;subst hv;obtain⟨vs',q1,q2⟩:=key _ hvs;cases q1 with
   |cons h1 h2=>
    cases h2;exact⟨_,q2,h1⟩
  .rename_i vs hnot hvs;simp only[aN]at hv;subst hv;obtain⟨vs',q1,q2⟩:=key _ hvs;refine⟨_,q2,?_⟩;have hne:¬(⟨vs'⟩:Array ah).size=1:=by
    intro h1;have hl:vs.length=1:=by rw[<- q1.length];exact h1
    match vs,hl with
    |[x],_=>exact hnot x rfl
   rw[dif_neg hne];exact .tuple q1
  .cases hv
 .cases hc
section
variable {cf:iG} {ts:T ah} {h:IH} {K:jB->IH->Prop}
def agd(v:ah)(hv:uo cf.results ts h=some v)(hk:K (.ok v) h):Ay P cf ts [] .returning h K:=by
 intro β w F cs fn hG hW hm hd ht hf hc;obtain⟨v',q1,q2⟩:=agc hW ht hc hv;have hmode:F.mode=.returning:=by generalize F.mode=m at hm;cases hm;rfl
 have hdef:F.defers=[]:=C5
 exact⟨.ok v,h,β,w,F,.returned v',hk,hW,Eff.refl _ _ _ hW.dom,.ok q2,Steps.refl P _,rfl,rfl,hmode,hdef,fn,hf,q1⟩
def age(ch:ae PanicEntry)(hk:K (.gI ch) h):Ay P cf ts [] (.panicking ch) h K:=by
 intro β w F cs fn hG hW hm hd ht hf hc;have hdef:F.defers=[]:=C5
 cases hmo:F.mode with
 |run=>rw[hmo]at hm;cases hm
 |returning=>rw[hmo]at hm;cases hm
 |panicking ch'=>
  rw[hmo]at hm;cases hm with
  |panicking hp=>exact⟨.gI ch,h,β,w,F,.panicked ch',hk,hW,Eff.refl _ _ _ hW.dom,.gI hp,Steps.refl P _,rfl,rfl,hmo,hdef,fn,hf⟩
variable{m:FrameMode}
def MR.Xy{β:aJ}{m':FrameMode}(h:MR β m m')(hm:m≠.run):m'≠.run:=by
 cases h<;>simp at hm⊢
def agf{args:Array ah}{ds:ae Deferred}(hm:m≠.run)(r:Nat)(hr:h.get r=some (.jo true))(h1:Ay P cf ts ds m (h.set r (.jo false)) K):
 Ay P cf ts ({target:=.collected r,args}::ds) m h K:=by
 intro β w F cs fn hG hW hmr hd ht hf hc;generalize hdd:F.defers=d at hd;cases hd with
 | @coll _ g _ a' _ ds' hb hl=>
   have ho:=hW.obj r g _ hb hr;have ho:w.heap[g.b]? =some (.deferred (some [])):=ho;have hlt:g.b<w.heap.size:=by
    rcases uW g.b w.heap.size with hh|hh
    .exact hh
    .rw[uX hh]at ho;cases ho
   obtain⟨z1,z2,z3⟩:=IJ (w:=w) (o:=.deferred none) hlt;obtain⟨y1,y2⟩:=hW.write hb hr (.jo false) z1 z2 rfl rfl rfl (aZ _) z3;have hrun:=MR.Xy hmr hm;have hstep:step P (lone F cs w)=.next (lone {F with defers:=ds'} cs (w.putObj g.b (.deferred none))):=by
    refine step_lone_go ?_;have ht:=run_takeDeferred (P:=P) ho;cases hmo:F.mode with
    |run=>exact absurd hmo hrun
    |returning=>simp[stepG,unwind,hmo,hdd,ht]
    |panicking ch=>simp[stepG,unwind,hmo,hdd,ht]
   obtain⟨rr,h',β',w',F1,r',q1,q2,q3,q4,q5,q6,q7,q8⟩:=h1 β (w.putObj g.b (.deferred none)) {F with defers:=ds'} cs fn hG y1 hmr hl ht hf hc;exact⟨rr,h',β',w',F1,r',q1,q2,y2.trans q3,q4,.head hstep q5,q6,q7,q8⟩
end
end Go.Ideal
namespace Go.Ideal
variable {P:Program}
variable{β:aJ}
def qL.dropWhile{l l':ae PanicEntry}(h:qL β l l'):qL β (l.dropWhile (!·.goexit)) (l'.dropWhile (!·.goexit)):=by
 induction h with
 |nil=>exact .nil
 | @cons e e' l l' hv hr hg hl ih=>
   simp only[List.dropWhile_cons,hg];cases e.goexit with
   |true=>exact .cons hv hr hg hl
   |false=>exact ih
variable{m mr:FrameMode}
def agh(h:MR β m mr):MR β (Cc m) (settle mr):=by
 cases h with
 |run=>exact .run
 |returning=>exact .returning
 |panicking hp=>
  cases hp with
  |nil=>exact .panicking .nil
  | @cons e e' l l' hv hr hg hl=>
    obtain⟨ev,er,eg⟩:=e';simp only at hv hr hg;cases her:e.recovered with
    |false=>
     rw[her]at hr;subst hr;simp only[Cc,her,cond_false,settle];exact .panicking (.cons hv her.symm hg hl)
    |true=>
     rw[her]at hr;subst hr;simp only[Cc,her,cond_true,settle];have hd:=hl.dropWhile;generalize l.dropWhile (!·.goexit)=x at hd;generalize l'.dropWhile (!·.goexit)=y at hd;cases hd with
     |nil=>exact .returning
     |cons a b c d=>exact .panicking (.cons a b c d)
def agi(h:MR β m mr){ch ch':ae PanicEntry}(hc:qL β ch ch'):MR β (Fv m ch) (raised mr ch'):=by
 cases h with
 |run=>exact .panicking hc
 |returning=>exact .panicking hc
 |panicking hp=>exact .panicking (hc.append hp)
def Xz{β':aJ}(hle:β.le β'){ts:T ah}{tm:Array ah}(h:∀i,VR β (dS ts i) (tm.getD i undef)):∀i,VR β' (dS ts i) (tm.getD i undef):=λi=>(h i).mono hle
variable{h:IH}{args:ae ah}
def agj{cf:iG}{ts:T ah}{K:jB->IH->Prop}{fn:Fn}{captured:ae ah}{ds:ae Deferred}(hm:m≠.run)(M:KR)(hc:nM P ⟨fn,args,captured,some m⟩ h M)
 (hpm:∀r pm h',M r pm h'->pm≠none) (hok:∀v m' h',M (.ok v) (some m') h'->Ay P cf ts ds (Cc m') h' K) (jC:∀ch m' h',M (.gI ch) (some m') h'->Ay P cf ts ds (Fv m' ch) h' K):
 Ay P cf ts ({target:=.fn fn ⟨captured⟩,args:=⟨args⟩}::ds) m h K:=by
 intro β w F cs XA hG hW hmr hd ht hf hcf;generalize hdd:F.defers=d at hd;cases hd with
 | @fn _ fn' _ c' _ a' _ ds' h1 h2 h3 hl=>
   obtain⟨nx,F0,n1,n2,n3⟩:=hc β w fn' a' c' hG hW h1 h3 h2;obtain⟨r,pm',h',β',w',r',cs1,q1,q2,q3,q4,q5,q6⟩:=n3 ({F with defers:=ds'}::cs) (λm0 hm0=>by simp only[aN]at hm0;subst hm0;exact⟨_,cs,rfl,hmr⟩);cases q5 with
   |some _ m' _ _ mr XB=>
   rcases q6 with⟨f,args',F1,e1,e2,e3,e4,e5⟩|⟨e1,_⟩
   .subst e1;simp only[entry,aN]at n2;subst n2;have hrun:=MR.Xy hmr hm;have hle:=q3.le hW.dom;have s1:=step_defer (cs:=cs) hrun hdd rfl n1;have hk:F1.kind=.deferred:=e4;cases q4 with
    | @ok v v' hv=>
      have s2:=step_going_returned (c:={{F with defers:=ds'}with mode:=mr}) (cs:=cs) hk e5;obtain⟨rr,h2',β2,w2,F2,r2,p1,p2,p3,p4,p5,p6,p7,p8⟩:=hok v m' h' q1 β' w' {{F with defers:=ds'}with mode:=settle mr} cs XA (hG.le hle) q2 (agh XB) (hl.mono hle) (Xz hle ht) hf hcf;exact kp
    | @gI ch ch' hch=>
      have s2:=step_going_panicked (c:={{F with defers:=ds'}with mode:=mr}) (cs:=cs) e5;obtain⟨rr,h2',β2,w2,F2,r2,p1,p2,p3,p4,p5,p6,p7,p8⟩:=jC ch m' h' q1 β' w' {{F with defers:=ds'}with mode:=raised mr ch'} cs XA (hG.le hle) q2 (agi XB hch) (hl.mono hle) (Xz hle ht) hf hcf;exact kp
   .cases e1.1
variable{q:iI}
def I4{K:KR}(M:KR)(hc:nM P q h M)(hk:∀r pm h',M r pm h'->K r pm h'):nM P q h K:=by
 intro β w fn' args' cap' hG hW hf ha hcap;obtain⟨nx,F0,n1,n2,n3⟩:=hc β w fn' args' cap' hG hW hf ha hcap;refine⟨nx,F0,n1,n2,λcs0 hcs=>?_⟩;obtain⟨r,pm',h',β',w',r',cs1,q1,q2,q3,q4,q5,q6⟩:=n3 cs0 hcs;exact⟨r,pm',h',β',w',r',cs1,hk _ _ _ q1,q2,q3,q4,q5,q6⟩
variable{f:fO}
def LC{t:aD}{v:ah}{name:String}{r:ah}(h:Fw P t v name=some (f,r)):r=v/\∀(n:Nat) (v':ah) (w:World),(method (n+1) t v' name).run P w=.ok (f,v') w:=by
 unfold Fw at h;split at h
 .cases h
 .rename_i info hi;split at h
  .cases h
  .rename_i m hm;split at h
   .cases h
   .rename_i hp;have hp0:m.path= #[]:=adM (by simpa using hp);split at h
    .rename_i f0 ptr hfn;have XC:∀(v':ah) (w:World),(follow m.path.toList t (.val v')).run P w=.ok (t,.val v') w:=λv' w=>by rw[hp0];rfl
     split at h
     .rename_i e hu;simp only[aN,dH]at h;obtain⟨rfl,rfl⟩:=h;refine⟨rfl,λn v' w=>?_⟩;simp only[method,dM,Ip hi,dR,hm,XC,hfn,receiverAt,gz hu,Place.get,fG]
     .cases h
     .rename_i d hnp hu;simp only[aN,dH]at h;obtain⟨rfl,rfl⟩:=h;refine⟨rfl,λn v' w=>?_⟩;simp only[method,dM,Ip hi,dR,hm,XC,hfn,receiverAt,gz hu];cases d<;>first|rfl|exact absurd rfl (hnp _)
     .cases h
    .cases h
def I5(ht:target P q=some (f,args)){β:aJ}{fn':Fn}{args' cap':ae ah}(hf:FR β q.fn fn')(ha:aW β q.args args')(hc:aW β q.captured cap'){fn:Func}(hfn:P.funcs[f]? =some fn){body:Code}(hb:fn.body=some body)
 (hname:fn.name≠ "runtime.NumGoroutine") (w:World):∃kE,(invoke (.fn fn' ⟨cap'⟩) ⟨args'⟩).run P w=.ok (.enter f ⟨kE⟩) w/\aW β args kE:=by
 have hcall:∀(xs:Array ah),(callFunc f xs).run P w=.ok (.enter f xs) w:=λxs=>by
  exact gk
 have QD:∀(t:aD) (v v' r:ah) (name:String) (xs:ae ah),Fw P t v name=some (f,r)->(callMethod (.iface t v') name ⟨xs⟩).run P w=.ok (.enter f ⟨v'::xs⟩) w:=λt v v' r name xs hm=>by
  obtain⟨_,h2⟩:=LC hm;have hd:P.types.size+Made.depth=(P.types.size+(Made.depth - 1))+1:=rfl;have he:(#[v']:Array ah)++(⟨xs⟩:Array ah)=⟨v'::xs⟩:=uv
  simp only[callMethod,dM,run_program,dR,hd,h2,he];exact hcall _
 unfold target at ht;cases I6:q.fn with
 |func f0=>
  rw[I6]at ht hf;simp only[aN,dH]at ht;obtain⟨rfl,rfl⟩:=ht;cases hf;refine⟨args'++cap',?_,by rw[jW];exact ha.append hc⟩;have:(⟨args'⟩:Array ah)++(⟨cap'⟩:Array ah)=⟨args'++cap'⟩:=uv
  simp only[invoke,this];exact hcall _
 |method name=>
  rw[I6]at ht hf;simp only at ht;cases hf;split at ht
  .rename_i t v as QE;split at ht
   .rename_i f1 r hm;simp only[aN,dH]at ht;obtain⟨rfl,rfl⟩:=ht;rw[QE]at ha;cases ha with
    | @cons _ x' _ as' hv hl=>
      obtain⟨v',hv',rfl⟩:=hv.D9;obtain⟨rfl,_⟩:=LC hm;refine⟨v'::as',?_,.cons hv' hl⟩;have h0:(⟨Value.iface t v'::as'⟩:Array ah)[0]? =some (.iface t v'):=rfl;have h1:(⟨Value.iface t v'::as'⟩:Array ah).extract 1 (⟨Value.iface t v'::as'⟩:Array ah).size=⟨as'⟩:=by apply Array.ext';simp[VJ]
      simp only[invoke,h0,h1];exact QD t _ v' _ name as' hm
   .cases ht
  .cases ht
 |methodOf t name=>
  rw[I6]at ht hf;simp only at ht;cases hf;split at ht
  .rename_i x as QE;rw[QE]at ha;cases ha with
   | @cons _ x' _ as' hv hl=>
     have h0:(⟨x'::as'⟩:Array ah)[0]? =some x':=rfl;have h1:(⟨x'::as'⟩:Array ah).extract 1 (⟨x'::as'⟩:Array ah).size=⟨as'⟩:=by apply Array.ext';simp[VJ]
     split at ht
     .rename_i ms hu;split at ht
      .rename_i t2 v;split at ht
       .rename_i f1 r hm;simp only[aN,dH]at ht;obtain⟨rfl,rfl⟩:=ht;obtain⟨v',hv',rfl⟩:=hv.D9;obtain⟨rfl,_⟩:=LC hm;refine⟨v'::as',?_,.cons hv' hl⟩;simp only[invoke,h0,h1,dM,gz hu,dR];exact QD t2 _ v' _ name as' hm
       .cases ht
      .cases ht
     .rename_i d hni hu;split at ht
      .rename_i f1 r hm;simp only[aN,dH]at ht;obtain⟨rfl,rfl⟩:=ht;obtain⟨rfl,_⟩:=LC hm;refine⟨x'::as',?_,.cons hv hl⟩;simp only[invoke,h0,h1,dM,gz hu,dR];exact QD t _ x' _ name as' hm
      .cases ht
     .cases ht
  .cases ht
 |via t p f0 b=>rw[I6]at ht;cases ht
 |yield l=>rw[I6]at ht;cases ht
end Go.Ideal
namespace Go.Ideal
variable {P:Program}
def agl(v:ah)(l:ae ah)(i:Nat)(t:T ah):Am (v::l) i t=Am l (i+1) (t.set i (some v)):=rfl
def XD:∀(l:ae ah) (i:Nat) (t:T ah) (j:Nat),dS (Am l i t) j=if i<=j/\j<i+l.length then l.getD (j - i) dX else dS t j:=by
 intro l;induction l with
 |nil=>intro i t j;rw[if_neg s7];rfl
 |cons v l ih=>
  intro i t j;rw[agl,ih,FE];by_cases h:i+1<=j/\j<i+1+l.length
  .rw[if_pos h,if_pos tc];have:j - i=(j - (i+1))+1:=by omega
   rw[this];rfl
  .rw[if_neg h];by_cases e:j=i
   .subst e;rw[if_pos rfl,if_pos s7];simp
   .rw[if_neg e,if_neg tc]
def XE(a b:Nat):um a b=max a b:=by
 unfold um;cases hb:Nat.ble a b with
 |true=>have:=pq hb;show b=_;omega
 |false=>
  have:¬a<=b:=λhh=>by rw[KE hh]at hb;cases hb
  show a=_;omega
def agm{β:aJ}{n:Nat}{args kE:ae ah}(h:aW β args kE)(pm:ak FrameMode):AR β none' (DW n args pm) ((⟨kE⟩:Array ah)++Array.replicate (n - kE.length) undef) []:=by
 have hlen:=h.length;refine⟨?_,λi _=>?_,λi hi=>?_,.nil⟩
 .show _=um n (jh args);rw[XE,xV];simp;omega
 .show VR β (dS (Am args 0 .leaf) i) _;rw[XD];by_cases hi:i<args.length
  .rw[if_pos ⟨s6,s6⟩];obtain⟨v',h1,h2⟩:=h.get (bG hi);have e1:args.getD (i - 0) dX=args[i]:=by simp[hi]
   rw[e1,wz,adO tc];have:(⟨kE⟩:Array ah)[i]? =some v':=tI
   rw[this];exact h2
  .rw[if_neg s6];exact .dX _
 .show dS (Am args 0 .leaf) i=dX;have:um n (jh args)<=i:=hi;rw[XE,xV]at this;rw[XD,if_neg s6];rfl
def agn{q:iI}{h:IH}{K:KR}(f:fO)(args:ae ah)(ht:target P q=some (f,args))(fn:Func)(hf:P.funcs[f]? =some fn)(cf:iG)(hcf:xS P fn=some cf)(M:KO)(h1:nL P cf.body (DW cf.ntmps args q.pm) h M)
 (h2:∀o a' h',M o a' h'->wJ o≠none) (h3:∀o a' h' m,M o a' h'->wJ o=some m->Ay P cf a'.tmps a'.defers m h' λr h''=>K r a'.pm h''):nM P q h K:=by
 intro β w fn' args' cap' hG hW hfr ha hcap;have agp:=hcf;unfold xS at hcf;split at hcf
 .rename_i body rs hb hrs;split at hcf
  .cases hcf
  rename_i hname;simp only[aN]at hcf;subst hcf;obtain⟨kE,t1,t2⟩:=I5 ht hfr ha hcap hf hb hname w;refine⟨_,Frame.enter P f ⟨kE⟩ (kindOf q.pm),t1,rfl,λcs0 AC=>?_⟩;let b:Frame:={(default:Frame)with fn:=f,kind:=kindOf q.pm}
  have hent:Frame.enter P f ⟨kE⟩ (kindOf q.pm)=fr b ((⟨kE⟩:Array ah)++Array.replicate (fn.ntmps - kE.length) undef) [] [.code body]:=by
   simp[Frame.enter,fr,hf,hb,b];rfl
  have hcx:CX P β q.pm none b cs0:=⟨⟨fn,hf⟩,.inl ⟨rfl,rfl⟩,rfl,AC⟩
  obtain⟨o,a',h',β',w',tm',iw,cs',q1,q2,q3,q4,q5,q6,q7⟩:=h1 body _ rfl (.inl rfl) β w b _ [] [] cs0 hG hW (agm t2 q.pm) hcx;rw[<- hent]at q7;have hle:=q3.le hW.dom;have leave:∀(m:FrameMode) (F:Frame),wJ o=some m->MR β' m F.mode->F.defers=iw->F.tmps=tm'->F.fn=f->F.kind=kindOf q.pm->Steps P (lone (Frame.enter P f ⟨kE⟩ (kindOf q.pm)) cs0 w) (lone F cs' w')->
   ∃r pm' h' β' w' r' cs1,K r pm' h'/\WR P β' h' w'/\Eff β h w β' h' w'/\RR β' r r'/\qw β' q.pm pm' cs0 cs1/\
   ((∃f1 agq F1,Next.enter f ⟨kE⟩=.enter f1 agq/\Steps P (lone (Frame.enter P f ⟨kE⟩ (kindOf q.pm)) cs0 w) (lone F1 cs1 w')/\F1.fn=f1/\F1.kind=kindOf q.pm/\F1.going P w' r')\/
    ((q.pm=none/\∃l,q.fn=.yield l)/\∀c rest,cs1=c::rest->Steps P (lone (Frame.enter P f ⟨kE⟩ (kindOf q.pm)) cs0 w) (lone (recv c r') rest w'))):=by
   intro m F hm hmr hdf htm hfn hkd hst;obtain⟨r,h2',β2,w2,F1,r',p1,p2,p3,p4,p5,p6,p7,p8⟩:=h3 o a' h' m q1 hm β' w' F cs' fn (hG.le hle) q2 hmr (by rw[hdf];exact q4.defers) (λi=>by rw[htm];exact q4.tmps i λhh=>hh) (by rw[hfn];exact hf) agp;exact⟨r,a'.pm,h2',β2,w2,r',cs',p1,p2,q3.trans p3,p4,q5.mono (p3.le q2.dom),.inl ⟨f,⟨kE⟩,F1,rfl,hst.trans p5,by rw[p7,hfn],by rw[p6,hkd],p8⟩⟩
  cases o with
  |normal=>exact leave .returning {fr b tm' iw []with mode:=.returning} rfl .returning rfl rfl rfl rfl (Steps.trans q7 (.one (afa rfl)))
  |exit id=>exact absurd rfl (h2 _ _ _ q1)
  |ret=>
   obtain⟨todo,e2⟩:=q7;exact leave .returning {fr b tm' iw (.code .ret::todo)with mode:=.returning} rfl .returning rfl rfl rfl rfl (Steps.trans e2 (.one (ae9 rfl)))
  |panic ch=>
   obtain⟨todo,ch',e1,e2⟩:=q7;exact leave (.panicking ch) {fr b tm' iw todo with mode:=.panicking ch'} rfl (.panicking e1) rfl rfl rfl rfl e2
 .cases hcf
end Go.Ideal
namespace Go.Ideal
variable {P:Program}
mutual
def VR.restrict{β β':aJ}(hle:β.le β'):∀{v v0 v':ah},VR β v v0->VR β' v v'->VR β v v'
 |_,_,_,.dX _,_=>.dX _
 |_,_,_,.skip,k=>by cases k;exact .skip
 |_,_,_,.bool _,k=>by cases k;exact .bool _
 |_,_,_,.int _ _,k=>by cases k;exact .int _ _
 |_,_,_,.float _ _,k=>by cases k;exact .float _ _
 |_,_,_,.complex _ _ _,k=>by cases k;exact .complex _ _ _
 |_,_,_,.string _,k=>by cases k;exact .string _
 |_,_,_,.nilFunc,k=>by cases k;exact .nilFunc
 |_,_,_,.nilIface,k=>by cases k;exact .nilIface
 |_,_,_,.Ce,k=>by cases k;exact .Ce
 |_,_,_,.ptr hi,k=>by
  obtain⟨g,h1,rfl⟩:=k.xZ;rw[hle _ _ hi]at h1;cases h1;exact .ptr hi
 |_,_,_,.sl0 _ _,k=>by cases k;exact .sl0 _ _
 |_,_,_,.az hi hb hn ha,k=>by
  obtain⟨g,a,c',q1,rfl,q3,q4,q5,q6,q7,q8⟩:=k.oJ;rw[hle _ _ hi]at q1;cases q1;rcases q8 with⟨_,rfl⟩|⟨q8,r1,_,_⟩
  .exact .az hi q3 q5 q7
  .simp only[aN]at q8;omega
 |_,_,_,.pW hi hb hs hn hz hl ht hc ha,k=>by
  obtain⟨g,a,c',q1,rfl,q3,q4,q5,q6,q7,q8⟩:=k.oJ;rw[hle _ _ hi]at q1;cases q1;rcases q8 with⟨q8,_⟩|⟨_,_,r2,r3,r4⟩
  .simp only[aN]at q8;omega
  .exact .pW hi q3 r4 q5 hz r2 r3 q6 (q7.imp id (·.1))
 |_,_,_,.Ar,k=>by cases k;exact .Ar
 |_,_,_,.map hi,k=>by
  obtain⟨g,h1,rfl⟩:=k.FN;rw[hle _ _ hi]at h1;cases h1;exact .map hi
 |_,_,_,.func hf h1 h2,k=>by
  obtain⟨fn',f',c',k1,k2,k3,rfl⟩:=k.Cg;refine .func ?_ (aW.restrict hle h1 k2) (aW.restrict hle h2 k3);cases hf with
  |func f=>cases k1;exact .func f
  |method n=>cases k1;exact .method n
  |methodOf t n=>cases k1;exact .methodOf t n
  |yield hl=>cases k1 with|yield hl'=>rw[hle _ _ hl]at hl';cases hl';exact .yield hl
 |_,_,_,.iface t hv,k=>by
  obtain⟨u',k1,rfl⟩:=k.D9;exact .iface t (VR.restrict hle hv k1)
 |_,_,_,.agg hc hl,k=>by
  obtain⟨l',k1,_,rfl⟩:=k.PU;exact .agg hc (aW.restrict hle hl k1)
 |_,_,_,.tuple hl,k=>by
  cases k with
  |dX=>cases hl;exact .dX _
  |tuple k1=>exact .tuple (aW.restrict hle hl k1)
def aW.restrict{β β':aJ}(hle:β.le β'):∀{v v0 v':ae ah},aW β v v0->aW β' v v'->aW β v v'
 |_,_,_,.nil,k=>by cases k;exact .nil
 |_,_,_,.cons hv hl,k=>by
  cases k with
  |cons k1 k2=>exact .cons (VR.restrict hle hv k1) (aW.restrict hle hl k2)
end
def gY.restrict{β β':aJ}(hle:β.le β'){l l0 l':ae MapEntry}(h:gY β l l0)(k:gY β' l l'):gY β l l':=by
 induction h generalizing l' with
 |nil=>cases k;exact .nil
 |cons hk hf hb hv hl ih=>
  cases k with
  |cons hk' hf' hb' hv' hl'=>exact .cons hk' hf' hb' (hv.restrict hle hv') (ih hl')
def OR.restrict{β β':aJ}(hle:β.le β'){g:je}{w w':World}{o:dL}(h:OR P β g w o)(k:OR P β' g w' o):OR P β g w' o:=by
 cases o with
 |cells cs=>
  obtain⟨_,_,_,_,_,a7⟩:=h;obtain⟨b1,b2,b3,b5,b6,b7⟩:=k;refine⟨b1,b2,b3,b5,b6,λj v hj=>?_⟩;exact lE
 |jV cs=>
  obtain⟨_,_,_,a7⟩:=h;obtain⟨b1,b2,b6,b7⟩:=k;refine⟨b1,b2,b6,λj v hj=>?_⟩;exact lE
 |map es clock=>
  obtain⟨es0,_,h0⟩:=h;obtain⟨es',h1,h2⟩:=k;exact⟨es',h1,h0.restrict hle h2⟩
 |DL s pos=>exact k
 |mapIter m since seen stepped=>
  obtain⟨m0,s0,_,_,h0,_⟩:=h;obtain⟨m',s',h1,h2,h3,h4⟩:=k;exact⟨m',s',h1,h2,h0.restrict hle h3,h4⟩
 |loop r=>
  obtain⟨r0,_,h0⟩:=h;obtain⟨r',h1,h2⟩:=k;obtain⟨g0,e1,_⟩:=h0.defers;obtain⟨g1,e2,e3⟩:=h2.defers;rw[hle _ _ e1]at e2;cases e2;exact⟨r',h1,⟨h2.state,h2.pending,h2.Io,h2.size,λi=>(h0.tmps i).restrict hle (h2.tmps i),h2.out,h2.params,h2.assign,h2.body,⟨_,e1,e3⟩,h2.FH⟩⟩
 |jo b=>exact k
def WR.low{β:aJ}{h:IH}{w:World}(hW:WR P β h w)(n:Nat):WR P β {h with low:=n} w:=⟨hW.dom,hW.live,hW.obj,hW.inj⟩
def ags{q:iI}{h:IH}{K:KR}(cs:ae ah)(n f:Nat)(hcs:iU cs=true)(hne:cs≠[])(hf:f=0\/cs.length=n*f)(M:KR)(hc:nM P q {h with low:=h.next} M)(hq:q.pm=none)
 (h1:∀r pm h',M r pm h'->pm=none/\h'.low=h.next/\∃i o c,r=.ok (.slice (some ⟨i,o,some f⟩) n c)/\h.next<=i/\(f=0->c=n)/\h'.qj i o cs.length=some cs)
 (hk:K (.ok (.slice (some ⟨h.next,0,some f⟩) n n)) none (h.new (.cells cs))):nM P q h K:=by
 intro β w fn' args' cap' hG hW hfr ha hcap;obtain⟨nx,F0,n1,n2,n3⟩:=hc β w fn' args' cap' hG (hW.low _) hfr ha hcap;refine⟨nx,F0,n1,n2,λcs0 AC=>?_⟩;obtain⟨r,pm',h',β',w',r',cs1,q1,q2,q3,q4,q5,q6⟩:=n3 cs0 AC;obtain⟨hpm,hlow,i,o,c,rfl,hi,hfc,hcells⟩:=h1 r pm' h' q1;subst hpm;cases q4 with
 | @ok v v' hv=>
   obtain⟨g,a,c',hg,hv',ha1,ha2,hn,hcc,hoff,hkind⟩:=hv.oJ;obtain⟨cells,hget,htake⟩:=WB hcells;rw[qJ,qp]at htake;split at htake
   .rename_i hle;simp only[aN]at htake;obtain⟨o1,o2,o3,o5,o6,o7⟩:=q2.obj i g _ hg hget;let g1:je:=⟨g.b,g.off+o,cs.length,g.top,g.sz⟩
    let β2:aJ:=λj=>if j<h.next then β j else if j=h.next then some g1 else none
    have hb2:∀j k,β2 j=some k->(j<h.next/\β j=some k/\β' j=some k)\/(j=h.next/\k=g1):=λj k hk=>by
     simp only[β2]at hk;split at hk
     .rename_i hj;exact .inl ⟨hj,hk,(q3.agree j hj).trans hk⟩
     .split at hk
      .rename_i hj;simp only[aN]at hk;exact .inr ⟨hj,hk.symm⟩
      .cases hk
    have hold:∀j,j<h.next->h'.get j=h.get j:=λj hj=>q3.kept j (by rw[hlow];exact hj) hj
    have hnew:∀j,(h.new (.cells cs)).get j=if j=h.next then some (.cells cs)else h.get j:=λj=>IH.jq _ _ _
    have hle2:β.le β2:=λj k hk=>by
     have:=hW.dom j k hk;simp only[β2];rw[if_pos this];exact hk
    have XF:∀(j:Nat) v,cs[j]? =some v->dG v=true:=λj v hj=>by
     have:∀(l:ae ah),iU l=true->∀v∈l,dG v=true:=by
      intro l;induction l with
      |nil=>intro _ v hv;simp at hv
      |cons x l ih=>
       intro hl v hv;simp[iU]at hl;rcases bH.1 hv with rfl|hv
       .exact hl.1.1
       .exact ih hl.2 v hv
     exact this cs hcs v (aT hj)
    have agt:∀(j:Nat) v,cs[j]? =some v->w'.cell? ⟨g.b,g.off+o+j,none⟩=some v:=λj v hj=>by
     have hj2:cells[o+j]? =some v:=by
      rw[<- htake,rE]at hj;split at hj
      .rw[jU]at hj;exact hj
      .cases hj
     obtain⟨v',t1,t2⟩:=o7 (o+j) v hj2;rw[t2.rM (XF j v hj)]at t1;rw[l5];exact t1
    have hlen:o+cs.length<=cells.length:=by
     simp at hle;have h0:0<cs.length:=Fb.2 hne;omega
    have hOR:OR P β2 g1 w' (.cells cs):=⟨o1,rfl,by show g.off+o+cs.length<=g.top;omega,o5,xW hcs,λj v hj=>⟨v,agt j v hj,VR.free (XF j v hj)⟩⟩
    have hW2:WR P β2 (h.new (.cells cs)) w':=by
     refine⟨?_,?_,?_,?_⟩
     .intro j k hk;show j<h.next+1
      rcases hb2 j k hk with⟨hj,_⟩|⟨hj,_⟩<;>omega
     .intro j x hx;show j<h.next+1
      rw[hnew]at hx;split at hx
      .omega
      .have:=hW.live j x hx;omega
     .intro j k x hk hx;rw[hnew]at hx;rcases hb2 j k hk with⟨hj,hb,hb'⟩|⟨hj,rfl⟩
      .rw[if_neg s6]at hx;have hx':h'.get j=some x:=by rw[hold j hj];exact hx
       exact((hW.obj j k x hb hx).restrict (q3.le hW.dom) (q2.obj j k x hb' hx')).mono hle2
      .rw[if_pos hj]at hx;simp only[aN]at hx;subst hx;exact hOR
     .intro j l k m hk hm hj hl hr he;rw[hnew]at hj hl;rcases hb2 j k hk with⟨hjn,_,hb'⟩|⟨hjn,rfl⟩
      .rw[if_neg s6]at hj;rcases hb2 l m hm with⟨hln,_,QF⟩|⟨hln,rfl⟩
       .rw[if_neg s6]at hl;exact q2.inj j l k m hb' QF (by rw[hold j hjn];exact hj) (by rw[hold l hln];exact hl) (hr.imp (λq cs e=>q cs (by rw[hnew,if_neg s6,<- hold j hjn];exact e)) (λq cs e=>q cs (by rw[hnew,if_neg s6,<- hold l hln];exact e))) he
       .have:=q2.inj j i k g hb' hg (by rw[hold j hjn];exact hj) AS (.inr C6) he;omega
      .rcases hb2 l m hm with⟨hln,_,QF⟩|⟨hln,rfl⟩
       .rw[if_neg s6]at hl;have:=q2.inj l i m g QF hg (by rw[hold l hln];exact hl) AS (.inr C6) he.symm;omega
       .omega
    have XG:β2 h.next=some g1:=by simp only[β2];rw[if_neg s6];simp
    have hE:Eff β h w β2 (h.new (.cells cs)) w':=
     {agree:=λj hj=>by simp only[β2];rw[if_pos hj]
      next:=Dw _
      alive:=λj hj hn=>by rw[hnew,if_neg s6]at hn;exact hn
      hid:=λj hj _=>by rw[hnew,if_neg s6]
      low:=aZ _
      kept:=λj _ hj=>by rw[hnew,if_neg s6]
      os:=q3.os,tape:=q3.tape,output:=q3.output,drawn:=q3.drawn,size:=q3.size,keep:=q3.keep
      vD:=λj k _ hj hk hn hb=>q3.vD j k (by rw[hlow];exact hj) hj hk hn hb
      fresh:=λj k hk hj=>by
       rcases hb2 j k hk with⟨hjn,_⟩|⟨_,rfl⟩
       .omega
       .exact q3.fresh i g hg hi}
    have hVR:VR β2 (.slice (some ⟨h.next,0,some f⟩) n n) v':=by
     subst hv';rcases hkind with⟨e1,e2⟩|⟨e1,e2,e3,e4,e5⟩
     .simp only[aN]at e1;have:=hfc e1;subst e1 e2 this;exact .az XG ha1 (aZ _) (by
       rcases hoff with hh|⟨hh,hs⟩
       .exact .inl hh
       .exact .inr ⟨by rw[hh];rfl,hs⟩)
     .simp only[aN]at e1;subst e1;have hcl:cs.length=n*g.sz:=hf.resolve_left s6;exact .pW (g:=g1) XG ha1 e5 (aZ _) e2 (by show 0+n*g.sz=cs.length;omega) (by show g.off+o+0+c'*g.sz=g.top;omega) (oH hn hcc) (by
       rcases hoff with hh|⟨hh,_⟩
       .exact .inl hh
       .exact .inr (by rw[hh];rfl))
    exact⟨_,none,_,β2,w',.returned v',cs1,hk,hW2,hE,.ok hVR,by rw[hq]at q5⊢;cases q5;exact .none _,by
     exact sL⟩
   .cases htake
end Go.Ideal
namespace Go.Ideal
variable {P:Program}
def agw(n p:Nat)(ps:ae Tmp)(v:ah)(args:ae ah)(t:T ah):xU n (p::ps) (v::args) t=xU n ps args (cond (Nat.blt p n) (t.set p (some v)) t):=rfl
def agx{β:aJ}{n:Nat}:∀(ps:ae Tmp) (args kE:ae ah) (t:T ah) (tm:Array ah),args.length=ps.length->aW β args kE->tm.size=n->(∀i,VR β (dS t i) (tm.getD i undef))->(∀i,n<=i->dS t i=dX)->
 (((ps.zip kE).foldl (λtmps (x:Tmp×ah)=>tmps.setIfInBounds x.1 x.2) tm).size=n/\(∀i,VR β (dS (xU n ps args t) i) (((ps.zip kE).foldl (λtmps (x:Tmp×ah)=>tmps.setIfInBounds x.1 x.2) tm).getD i undef))/\∀i,n<=i->dS (xU n ps args t) i=dX):=by
 intro ps;induction ps with
 |nil=>
  intro args kE t tm hl ha hs hv ho;cases args with
  |nil=>cases ha;exact⟨hs,hv,ho⟩
  |cons v args=>simp at hl
 |cons p ps ih=>
  intro args kE t tm hl ha hs hv ho;cases args with
  |nil=>simp at hl
  |cons v args=>
   cases ha with
   | @cons _ v' _ kE h1 h2=>
     rw[agw];simp only[Pn,nC];refine ih args kE _ (tm.setIfInBounds p v') xF h2 (by simpa using hs) (λi=>?_) (λi hi=>?_)
     .cases hb:Nat.blt p n with
      |true=>
       have hlt: @LT.lt Nat _ p n:=tM
       simp only[cond_true];rw[FE,Lp tm p v' i s6];by_cases e:i=p
       .rw[if_pos e,if_pos e];exact h1
       .rw[if_neg e,if_neg e];exact hv i
      |false=>
       have hge:n<=p:=by
        rcases uW p n with hh|hh
        .have:Nat.blt p n=true:=by simpa[wy]using hh
         rw[this]at hb;cases hb
        .exact hh
       simp only[cond_false];by_cases e:i=p
       .rw[ho i s6];exact .dX _
       .rw[wz,KH (Ne.symm e),<- wz];exact hv i
     .cases hb:Nat.blt p n with
      |true=>
       have hlt: @LT.lt Nat _ p n:=tM
       simp only[cond_true];rw[FE,if_neg s6];exact ho i hi
      |false=>exact ho i hi
section
variable {b:Frame} {tm:Array ah} {df:ae Deferred} {k:ae Item} {cs:ae Frame} {w:World}
variable{l:Nat}{r:Loop}
def agy(hb:b.roundOf=some l)(h:w.heap[l]? =some (.loop r))(hr:r.state=.ready):
 step P (lone (fr b tm df (.beginRound::k)) cs w)=.next (lone (fr b tm df k) cs (w.putObj l (.loop {r with state:=.busy}))):=by
 have h1:=run_beginRound (P:=P) h hr;refine step_lone_go ?_;simp[stepG,stepG.exec,fr,hb,stepG.apply,h1,Frame.finish]
def agz{todo:ae Item}(hb:b.roundOf=some l)(hk:b.kind=.normal)(h:w.heap[l]? =some (.loop r))(jump:ak Code)
 (ht:(todo=[]/\jump=none)\/(∃t,todo=.code .ret::t/\jump=some .ret)\/∃id t,todo=.code (.exit id)::t/\exitTo id t=none/\jump=some (.exit id)) (c:Frame):
 step P (lone (fr b tm df todo) (c::cs) w)=.next (lone (c.finish (.bool jump.isNone)) cs (w.putObj l (.loop {r with state:=if jump.isNone then .ready else .done,pending:=jump}))):=by
 have h1:=run_endRound (P:=P) jump h;refine step_lone_go ?_;rcases ht with⟨rfl,rfl⟩|⟨t,rfl,rfl⟩|⟨id,t,rfl,he,rfl⟩
 .simp[stepG,stepG.exec,fr,hb,h1,doReturn,hk]
 .simp[stepG,stepG.exec,fr,hb,h1,doReturn,hk]
 .simp[stepG,stepG.exec,fr,hb,h1,doReturn,hk,he]
end
end Go.Ideal
namespace Go.Ideal
variable {P:Program}
def QG{w:World}{l:Nat}{o:Obj}(hl:l<w.heap.size):(w.putObj l o).heap.size=w.heap.size/\(∀b,b≠l->(w.putObj l o).heap[b]? =w.heap[b]?)/\(w.putObj l o).heap[l]? =some o:=IJ hl
def agA{q:iI}{h:IH}{K:KR}(l:Nat)(hq:q.fn=.yield l)(hpm:q.pm=none)(r:pz)(hr:h.get l=some (.loop r))(hargs:q.args.length=r.params.length)
 (M:KO) (h1:nL P r.assign {n:=r.n,tmps:=xU r.n r.params q.args r.tmps,defers:=[],pm:=none,ro:=some l} h M)
 (h2:∀o a' h',M o a' h'->o=.normal/\∃r1,h'.get l=some (.loop r1)/\r1.state=.ready)
 (h3:∀a' h' r1,M .normal a' h'->h'.get l=some (.loop r1)->nL P r.body a' (h'.set l (.loop {r1 with state:=.busy})) λo a'' h''=>∃r2,h''.get l=some (.loop r2)/\a''.defers=[]/\
   match o with
   | .panic ch=>K (.gI ch) none h''
   | .normal=>K (.ok (.bool true)) none (h''.set l (.loop {r2 with state:=.ready,pending:=none}))
   |o=>K (.ok (.bool false)) none (h''.set l (.loop {r2 with state:=.done,pending:=some o}))):nM P q h K:=by
 intro β w fn' args' cap' hG hW hfr ha hcap;rw[hq]at hfr;cases hfr with
 | @yield _ g hg=>
 obtain⟨r',o1,L⟩:=hW.obj l g _ hg hr;have hsz:(⟨args'⟩:Array ah).size=r'.params.size:=by
  have e1:args'.length=q.args.length:=ha.length;have e2:r'.params.size=r.params.length:=by rw[<- L.params];simp
  show args'.length=_;omega
 refine⟨_,_,by
  show(Instr.yield g.b ⟨args'⟩).run P w=_;exact run_yield o1 hsz,rfl,λcs0 _=>?_⟩
 rw[hpm];have Li:(r'.params.zip (⟨args'⟩:Array ah)).foldl (λtmps (x:Tmp×ah)=>tmps.setIfInBounds x.1 x.2) r'.tmps=(r.params.zip args').foldl (λtmps (x:Tmp×ah)=>tmps.setIfInBounds x.1 x.2) r'.tmps:=by
  rw[<- VI,Array.toList_zip,L.params]
 obtain⟨t1,t2,t3⟩:=agx (β:=β) (n:=r.n) r.params q.args args' r.tmps r'.tmps hargs ha L.size L.tmps L.out;rw[<- Li]at t1 t2;let b:Frame:={(default:Frame)with fn:=r'.fn,kind:=.normal,roundOf:=some g.b}
 have hcx:CX P β none (some l) b cs0:=⟨L.FH,.inr ⟨l,g,rfl,hg,rfl⟩,rfl,λm hm=>by cases hm⟩
 have hA:AR β none' {n:=r.n,tmps:=xU r.n r.params q.args r.tmps,defers:=[],pm:=none,ro:=some l} ((r'.params.zip (⟨args'⟩:Array ah)).foldl (λtmps (x:Tmp×ah)=>tmps.setIfInBounds x.1 x.2) r'.tmps) []:=
  ⟨t1,λi _=>t2 i,t3,.nil⟩
 obtain⟨o,a',h',β',w',tm',iw,cs',q1,q2,q3,q4,q5,q6,q7⟩:=h1 r'.assign _ L.assign (.inl rfl) β w b _ [] [.beginRound,.code r'.body] cs0 hG hW hA hcx;obtain⟨rfl,r1,hr1,hst⟩:=h2 o a' h' q1;have hle:=q3.le hW.dom;have hg':=hle _ _ hg;obtain⟨r1',o2,L1⟩:=q2.obj l g _ hg' hr1;have hlt1:g.b<w'.heap.size:=by
  rcases uW g.b w'.heap.size with hh|hh
  .exact hh
  .rw[uX hh]at o2;cases o2
 obtain⟨z1,z2,z3⟩:=QG (w:=w') (o:=.loop {r1' with state:=.busy}) hlt1;obtain⟨y1,y2⟩:=q2.write hg' hr1 (.loop {r1 with state:=.busy}) z1 z2 rfl rfl rfl (aZ _) ⟨_,z3,{L1 with state:=rfl}⟩;have QH:a'.pm=none:=by
  have h5:=q5;generalize a'.pm=x at h5;cases h5;rfl
 have s1:Steps P (lone (Frame.round g.b r'.fn ((r'.params.zip (⟨args'⟩:Array ah)).foldl (λtmps (x:Tmp×ah)=>tmps.setIfInBounds x.1 x.2) r'.tmps) r'.assign r'.body .normal) cs0 w) (lone (fr b tm' iw [.code r'.body]) cs' (w'.putObj g.b (.loop {r1' with state:=.busy}))):=by
  refine Steps.trans q7 (.one (agy rfl o2 (by rw[L1.state];exact hst)))
 have hcs':cs'=cs0:=by
  have h5:=q5;rw[QH]at h5;cases h5;rfl
 subst hcs';have agB:CX P β' a'.pm a'.ro b cs':=by
  rw[QH,q6];exact⟨L.FH,.inr ⟨l,g,rfl,hg',rfl⟩,rfl,λm hm=>by cases hm⟩
 obtain⟨XH,a2,h4,β2,w2,XI,df2,cs2,p1,p2,p3,p4,p5,p6,p7⟩:=h3 a' h' r1 q1 hr1 r'.body _ L.body (.inl rfl) β' _ b tm' iw [] cs' (hG.le hle) y1 q4 agB;obtain⟨r2,hr2,hdf,hK⟩:=p1;have hle2:=p3.le y1.dom;have hg2:=hle2 _ _ hg';have hcs2:cs2=cs'/\a2.pm=none:=by
  have h5:=p5;rw[QH]at h5;generalize a2.pm=x at h5;cases h5;exact⟨rfl,rfl⟩
 obtain⟨rfl,asY⟩:=hcs2;obtain⟨r2',o3,L2⟩:=p2.obj l g _ hg2 hr2;have hlt2:g.b<w2.heap.size:=by
  rcases uW g.b w2.heap.size with hh|hh
  .exact hh
  .rw[uX hh]at o3;cases o3
 have agC:df2=[]:=by
  have h5:=p4.defers;rw[hdf]at h5;cases h5;rfl
 have hE:Eff β h w β2 h4 w2:=(q3.trans y2).trans p3;by_cases jC:∃ch,XH=.panic ch
 .obtain⟨ch,rfl⟩:=jC;obtain⟨todo,ch',e1,e2⟩:=p7;refine⟨.gI ch,none,h4,β2,w2,.panicked ch',cs2,hK,p2,hE,.gI e1,.none _,.inr ⟨⟨rfl,l,hq⟩,λc rest hc=>?_⟩⟩;subst hc;refine(s1.trans e2).trans (.one ?_);obtain⟨fn,hfn⟩:=L.FH;subst agC;exact step_leave_panicked ⟨rfl,rfl,fn,hfn⟩
 .have key:∃(jump:ak Code) (out:ak Out) (todo:ae Item),jump=out.bind Wx/\(∀ch,out≠some (.panic ch))/\jump.isNone=out.isNone/\
   ((todo=[]/\jump=none)\/(∃t,todo=.code .ret::t/\jump=some .ret)\/∃id t,todo=.code (.exit id)::t/\exitTo id t=none/\jump=some (.exit id))/\
   Steps P (lone (fr b tm' iw [.code r'.body]) cs2 (w'.putObj g.b (.loop {r1' with state:=.busy}))) (lone (fr b XI df2 todo) cs2 w2)/\
   K (.ok (.bool out.isNone)) none (h4.set l (.loop {r2 with state:=if out.isNone then .ready else .done,pending:=out})):=by
   cases XH with
   |panic ch=>exact absurd ⟨ch,rfl⟩ jC
   |normal=>exact⟨none,none,[],rfl,s7,rfl,.inl ⟨rfl,rfl⟩,p7,hK⟩
   |exit id=>
    obtain⟨todo,e1,e2⟩:=p7;exact⟨some (.exit id),some (.exit id),_,rfl,s7,rfl,.inr (.inr ⟨id,todo,rfl,e1,rfl⟩),e2,hK⟩
   |ret=>
    obtain⟨todo,e2⟩:=p7;exact⟨some .ret,some .ret,_,rfl,s7,rfl,.inr (.inl ⟨todo,rfl,rfl⟩),e2,hK⟩
  obtain⟨jump,out,todo,k1,k2,k3,k4,k5,k6⟩:=key;obtain⟨x1,x2,x3⟩:=QG (w:=w2) (o:=.loop {r2' with state:=if jump.isNone then .ready else .done,pending:=jump}) hlt2;obtain⟨u1,u2⟩:=p2.write hg2 hr2 (.loop {r2 with state:=if out.isNone then .ready else .done,pending:=out}) x1 x2 rfl rfl rfl (aZ _) ⟨_,x3,{L2 with state:=by rw[k3],pending:=k1,Io:=k2}⟩;refine⟨_,none,_,β2,_,.returned (.bool out.isNone),cs2,k6,u1,hE.trans u2,.ok (.bool _),.none _,.inr ⟨⟨rfl,l,hq⟩,λc rest hc=>?_⟩⟩;subst hc;refine(s1.trans k5).trans (.one ?_);have:=agz (P:=P) (tm:=XI) (df:=df2) (cs:=rest) (b:=b) rfl rfl o3 jump k4 c;rw[k3]at this;rw[k3];exact this
end Go.Ideal
namespace Go.Ideal
variable {P:Program}
section
variable {b:Frame} {tm:Array ah} {df:ae Deferred} {k:ae Item} {cs:ae Frame} {w:World}
variable{l:Nat}
def agD{f:ay}{ps:Array Tmp}{x y:Code}{mark:ae Deferred}{w1:World}(he:(Instr.enterLoop b.fn tm ps x y b.roundOf).run P w=.ok (l,mark) w1){fn:Fn}{first captured:Array ah}
 (hf:Act.eval ⟨tm,df⟩ f=.func fn first captured) {nx:Next} {F0:Frame} (hi:(invoke (.fn fn captured) (first++ #[.func (.yield l) #[] #[]])).run P w1=.ok nx w1) (hn:entry P .normal nx=some F0):
 step P (lone (fr b tm df (.code (.rangeFunc f ps x y)::k)) cs w)=.next (lone F0 (fr b tm (mark++df) (.inRangeFunc l::k)::cs) w1):=by
 refine step_lone_go ?_;have hev:({fr b tm df (.code (.rangeFunc f ps x y)::k)with todo:=.inRangeFunc l::k,defers:=mark++df}:Frame).eval f=.func fn first captured:=by
  rw[<- hf];cases f<;>rfl
 have hcall:(do let d <- resolve ({fr b tm df (.code (.rangeFunc f ps x y)::k)with todo:=.inRangeFunc l::k,defers:=mark++df}:Frame).eval {callee:=.value f,args:= #[.const (.func (.yield l) #[] #[])],argTypes:= #[]} 0;invoke d.target d.args:Sem Next).run P w1=.ok nx w1:=by
  have hc:({fr b tm df (.code (.rangeFunc f ps x y)::k)with todo:=.inRangeFunc l::k,defers:=mark++df}:Frame).eval (.const (.func (.yield l) #[] #[]))=.func (.yield l) #[] #[]:=rfl;simp only[resolve,hev,Deferred.ofValue,dM,fG,dR];have:(#[Operand.const (.func (.yield l) #[] #[])].map ({fr b tm df (.code (.rangeFunc f ps x y)::k)with todo:=.inRangeFunc l::k,defers:=mark++df}:Frame).eval)= #[.func (.yield l) #[] #[]]:=by simp[hc]
  rw[this];exact hi
 have hfr:({fr b tm df (.code (.rangeFunc f ps x y)::k)with todo:=.inRangeFunc l::k,defers:=mark++df}:Frame)=fr b tm (mark++df) (.inRangeFunc l::k):=rfl;rw[hfr]at hcall;have he':(Instr.enterLoop (fr b tm df (.code (.rangeFunc f ps x y)::k)).fn (fr b tm df (.code (.rangeFunc f ps x y)::k)).tmps ps x y (fr b tm df (.code (.rangeFunc f ps x y)::k)).roundOf).run P w=.ok (l,mark) w1:=he;cases nx<;>simp only[entry,aN,reduceCtorEq]at hn
 .exact n5
 .exact n5
def agE{r:Loop}(h:w.heap[l]? =some (.loop r))(hb:r.state≠.busy):
 step P (lone (fr b tm df (.endRangeFunc l::k)) cs w)=.next (lone (fr b tm df ((r.pending.map Item.code).toList++k)) cs (w.putObj l (.loop {r with state:=.exhausted}))):=by
 have h1:=run_endLoop (P:=P) h hb;refine step_lone_go ?_;simp[stepG,stepG.exec,fr,h1]
end
end Go.Ideal
namespace Go.Ideal
variable {P:Program}
variable{a:bi}{f:ay}
def XJ{h:IH}{K:KO}{ps:ae Tmp}{assign body:dz}(fn:Fn)(first captured:ae ah)(hf:a.eval f=.func fn ⟨first⟩ ⟨captured⟩)(a1:bi)(h1:IH)(r:Nat)(M:KR)
 (ha1:a1.tmps=a.tmps/\a1.n=a.n/\a1.pm=a.pm/\a1.ro=a.ro)
 (hc:nM P ⟨fn,lM first [.func (.yield h1.next) #[] #[]],captured,none⟩ (h1.new (.loop {state:=.ready,pending:=none,tmps:=a.tmps,n:=a.n,params:=ps,assign,body,defers:=r})) M)
 (hok:∀v pm h2,M (.ok v) pm h2->∃lp,h2.get h1.next=some (.loop lp)/\lp.state≠.busy/\K (lp.pending.getD .normal) a1 (h2.set h1.next (.loop {lp with state:=.exhausted})))
 (jC:∀ch pm h2,M (.gI ch) pm h2->K (.panic ch) a1 h2)
 {params:Array Tmp} {x y:Code} (hps:params.toList=ps) (hx:compile P x=assign) (hy:compile P y=body) (yf:DU P f=true)
 {β:aJ} {w:World} {b:Frame} {tm:Array ah} {df:ae Deferred} {k:ae Item} {cs:ae Frame} (hG:l9 P β) (hW:WR P β h w) (hA:AR β none' a tm df) (hcx:CX P β a.pm a.ro b cs)
 {β1:aJ} {w1:World} {uz mark:ae Deferred} {gr:je} (hW1:WR P β1 h1 w1) (hE1:Eff β h w β1 h1 w1) (hdf:uz=mark++df) (hdr:wM β1 a1.defers uz) (hgr:β1 r=some gr)
 (hent:(Instr.enterLoop b.fn tm params x y b.roundOf).run P w=.ok (w1.heap.size,mark) (w1.alloc (.loop {state:=.ready,pending:=none,fn:=b.fn,tmps:=tm,params,assign:=x,body:=y,defers:=gr.b}))):
 Post P β h w a.pm a.ro b cs k K (lone (fr b tm df (.code (.rangeFunc f params x y)::k)) cs w):=by
 obtain⟨e1,e2,e3,e4⟩:=ha1;have hle1:=hE1.le hW.dom;let g:je:=⟨w1.heap.size,0,0,0,0⟩
 let QI:Loop:={state:=.ready,pending:=none,fn:=b.fn,tmps:=tm,params,assign:=x,body:=y,defers:=gr.b}
 have hle2:β1.le (β1.add h1.next g):=aJ.xX g hW1.zh;have hLR:LR P (β1.add h1.next g) {state:=.ready,pending:=none,tmps:=a.tmps,n:=a.n,params:=ps,assign,body,defers:=r} QI:=
  {state:=rfl,pending:=rfl,Io:=s7,size:=hA.size,tmps:=λi=>((hA.tmps i λhh=>hh).mono hle1).mono hle2,out:=hA.out,params:=hps,assign:=hx,body:=hy,defers:=⟨gr,hle2 _ _ hgr,rfl⟩,FH:=hcx.fn}
 obtain⟨hW2,hE2⟩:=hW1.alloc (.loop {state:=.ready,pending:=none,tmps:=a.tmps,n:=a.n,params:=ps,assign,body,defers:=r}) (.loop QI) g rfl rfl ⟨QI,by simp[g],hLR⟩;have Az:=hA.eval (iw:=df) hG yf (λ_ _ hh=>hh);rw[hf]at Az;obtain⟨fn',f',c',k1,k2,k3,k4⟩:=Az.Cg;have XK:(β1.add h1.next g) h1.next=some g:=aJ.l8 _ _ _
 have hG2:l9 P (β1.add h1.next g):=(hG.le hle1).le hle2;obtain⟨nx,F0,n1,n2,n3⟩:=hc.call rfl hG2 hW2 ((k1.mono hle1).mono hle2) (args':=f'++[.func (.yield w1.heap.size) #[] #[]]) (by
  rw[jW];refine((k2.mono hle1).mono hle2).append (.cons ?_ .nil);exact .func (.yield XK) .nil .nil) ((k3.mono hle1).mono hle2)
 have hargs:(⟨f'⟩:Array ah)++ #[.func (.yield w1.heap.size) #[] #[]]=⟨f'++[.func (.yield w1.heap.size) #[] #[]]⟩:=uv
 have hstep:=agD (P:=P) (b:=b) (tm:=tm) (df:=df) (k:=k) (cs:=cs) hent k4 (nx:=nx) (F0:=F0) (by rw[hargs];exact n1) n2;rw[<- hdf]at hstep;obtain⟨res,h3,β3,w3,r',q1,q2,q3,q4,q5⟩:=n3 (fr b tm uz (.inRangeFunc w1.heap.size::k)) cs;have hle3:=q3.le hW2.dom;have hA3:AR β3 none' a1 tm uz:=by
  refine⟨by rw[e2];exact hA.size,λi hi=>?_,λi hi=>?_,(hdr.mono hle2).mono hle3⟩
  .rw[e1];exact(((hA.tmps i hi).mono hle1).mono hle2).mono hle3
  .rw[e1];exact hA.out i (by rw[<- e2];exact hi)
 have hE:Eff β h w β3 h3 w3:=(hE1.trans hE2).trans q3;have hcs:qw β3 a.pm a1.pm cs cs:=by rw[e3];exact((hcx.start.mono hle1).mono hle2).mono hle3
 cases q4 with
 | @gI ch ch' hch=>
   refine⟨.panic ch,a1,h3,β3,w3,tm,uz,cs,jC ch none h3 q1,q2,hE,hA3,hcs,e4,.inRangeFunc w1.heap.size::k,ch',hch,.head hstep q5⟩
 | @ok v v' hv=>
   obtain⟨lp,l1,l2,l3⟩:=hok v none h3 q1;have hg3:=hle3 _ _ XK;obtain⟨zl,o1,L⟩:=q2.obj _ g _ hg3 l1;have o1:w3.heap[w1.heap.size]? =some (.loop zl):=o1;have hlt:w1.heap.size<w3.heap.size:=by
    rcases uW w1.heap.size w3.heap.size with hh|hh
    .exact hh
    .rw[uX hh]at o1;cases o1
   obtain⟨z1,z2,z3⟩:=QG (w:=w3) (o:=.loop {zl with state:=.exhausted}) hlt;obtain⟨y1,y2⟩:=q2.write hg3 l1 (.loop {lp with state:=.exhausted}) z1 z2 rfl rfl rfl (aZ _) ⟨_,z3,{L with state:=rfl}⟩;have hfin:recv (fr b tm uz (.inRangeFunc w1.heap.size::k)) (.returned v')=fr b tm uz (.endRangeFunc w1.heap.size::k):=rfl;rw[hfin]at q5;have s2:=agE (P:=P) (b:=b) (tm:=tm) (df:=uz) (k:=k) (cs:=cs) o1 (by rw[L.state];exact l2);have hst:=(Steps.head hstep q5).trans (.one s2);have uA:=L.pending;cases hlp:lp.pending with
   |none=>
    have hgd:lp.pending.getD .normal=.normal:=by rw[hlp];rfl
    rw[hgd]at l3;rw[hlp]at uA;exact fL
   |some o=>
    have hgd:lp.pending.getD .normal=o:=by rw[hlp];rfl
    rw[hgd]at l3;rw[hlp]at uA;cases o with
    |normal=>
     exact fL
    |exit id=>
     have uA:zl.pending=some (.exit id):=uA;have hto:(zl.pending.map Item.code).toList++k=.code (.exit id)::k:=by rw[uA];rfl
     rw[hto]at hst;exact⟨.exit id,a1,_,β3,_,tm,uz,cs,l3,y1,hE.trans y2,hA3,hcs,e4,k,rfl,hst⟩
    |ret=>
     have uA:zl.pending=some .ret:=uA;have hto:(zl.pending.map Item.code).toList++k=.code .ret::k:=by rw[uA];rfl
     rw[hto]at hst;exact⟨.ret,a1,_,β3,_,tm,uz,cs,l3,y1,hE.trans y2,hA3,hcs,e4,k,hst⟩
    |panic ch=>exact absurd hlp (L.Io ch)
def agG{h:IH}{K:KO}{ps:ae Tmp}{assign body:dz}(fn:Fn)(first captured:ae ah)(hf:a.eval f=.func fn ⟨first⟩ ⟨captured⟩)(a1:bi)(h1:IH)(r:Nat)
 (hr:(a.ro=none/\a1={a with defers:={target:=.collected h.next,args:= #[]}::a.defers}/\h1=h.new (.jo true)/\r=h.next)\/(∃l0 r0,a.ro=some l0/\a1=a/\h1=h/\h.get l0=some (.loop r0)/\r=r0.defers))
 (M:KR) (hc:nM P ⟨fn,lM first [.func (.yield h1.next) #[] #[]],captured,none⟩ (h1.new (.loop {state:=.ready,pending:=none,tmps:=a.tmps,n:=a.n,params:=ps,assign,body,defers:=r})) M)
 (hok:∀v pm h2,M (.ok v) pm h2->∃lp,h2.get h1.next=some (.loop lp)/\lp.state≠.busy/\K (lp.pending.getD .normal) a1 (h2.set h1.next (.loop {lp with state:=.exhausted})))
 (jC:∀ch pm h2,M (.gI ch) pm h2->K (.panic ch) a1 h2):nL P (.rangeFunc f ps assign body) a h K:=by
 intro code it hcode hst β w b tm df k cs hG hW hA hcx;cases code<;>simp only[compile,reduceCtorEq]at hcode
 case region id ops draw=>rcases AB hcode with⟨_,_,h1⟩|h1<;>cases h1
 case rangeFunc f' params x y=>
  split at hcode
  .rename_i yf;simp only[dz.rangeFunc.injEq]at hcode;obtain⟨rfl,hps,hx,hy⟩:=hcode;obtain rfl:=hst.code s7;rcases hr with⟨hro,rfl,rfl,rfl⟩|⟨l0,r0,hro,rfl,rfl,hl0,rfl⟩
   .have hbr:b.roundOf=none:=by
     rcases hcx.round with⟨_,h2⟩|⟨l,g,h2,_⟩
     .exact h2
     .rw[hro]at h2;cases h2
    let g:je:=⟨w.heap.size,0,0,0,0⟩
    obtain⟨hW1,hE1⟩:=hW.alloc (.jo true) (.deferred (some [])) g rfl rfl (by show _=_;simp[g]);refine XJ fn first captured hf {a with defers:={target:=.collected h.next,args:= #[]}::a.defers} (h.new (.jo true)) h.next M ⟨rfl,rfl,rfl,rfl⟩ hc hok jC hps hx hy yf hG hW hA hcx (β1:=β.add h.next g) (uz:={target:=.collected w.heap.size,args:= #[]}::df) (mark:=[{target:=.collected w.heap.size,args:= #[]}]) (gr:=g) hW1 hE1 rfl ?_ (aJ.l8 _ _ _) ?_
    .exact .coll (g:=g) (aJ.l8 _ _ _) (hA.defers.mono (aJ.xX g hW.zh))
    .have hs:({w with heap:=w.heap.push (.deferred (some []))}:World).heap.size=w.heap.size+1:=by show(w.heap.push _).size=_;simp
     rw[hbr,run_enterLoop_outer,hs];rfl
   .obtain⟨g0,hb1,hb2⟩:∃g0,β l0=some g0/\b.roundOf=some g0.b:=by
     rcases hcx.round with⟨h2,_⟩|⟨l,g,h2,h3,h4⟩
     .rw[hro]at h2;cases h2
     .rw[hro]at h2;simp only[aN]at h2;subst h2;exact⟨g,h3,h4⟩
    obtain⟨r0',o1,L⟩:=hW.obj l0 g0 _ hb1 hl0;obtain⟨gr,hgr,agH⟩:=L.defers;refine XJ fn first captured hf _ _ _ M ⟨rfl,rfl,rfl,rfl⟩ hc hok jC hps hx hy yf hG hW hA hcx (β1:=β) (uz:=df) (mark:=[]) (gr:=gr) hW (Eff.refl _ _ _ hW.dom) rfl hA.defers hgr ?_
    rw[hb2];simp only[Instr.enterLoop,dM,run_getLoop o1,dR,fG,agH,run_newObj_alloc]
  .cases hcode
end Go.Ideal
namespace Go.Ideal
variable {P:Program}
def aJ.cut(β:aJ)(m:Nat):aJ:=λi=>if i<m then β i else none
def aJ.agI(β:aJ)(m:Nat):(β.cut m).le β:=λi g h=>by
 simp only[aJ.cut]at h;split at h
 .exact h
 .cases h
def aJ.I7{β:aJ}{m i:Nat}(h:i<m):β.cut m i=β i:=by simp only[aJ.cut];rw[if_pos h]
def FY{a b:Nat}(h:Nat.blt a b=true):a<b:=pq h
mutual
def VR.cut{β:aJ}{m:Nat}:∀{v v':ah},VR β v v'->qm m v=true->VR (β.cut m) v v'
 |_,_,.dX v,_=>.dX v
 |_,_,.skip,_=>.skip
 |_,_,.bool b,_=>.bool b
 |_,_,.int k n,_=>.int k n
 |_,_,.float k n,_=>.float k n
 |_,_,.complex k n o,_=>.complex k n o
 |_,_,.string s,_=>.string s
 |_,_,.nilFunc,_=>.nilFunc
 |_,_,.nilIface,_=>.nilIface
 |_,_,.Ce,_=>.Ce
 |_,_,.ptr hi,hb=>.ptr GW
 |_,_,.sl0 n c,_=>.sl0 n c
 |_,_,.az hi q1 q2 q3,hb=>.az GW q1 q2 q3
 |_,_,.pW hi q1 q2 q3 q4 q5 q6 q7 q8,hb=>.pW GW q1 q2 q3 q4 q5 q6 q7 q8
 |_,_,.Ar,_=>.Ar
 |_,_,.map hi,hb=>.map GW
 |_,_,.func hf h1 h2,hb=>by
  simp only[qm,eP]at hb;refine .func ?_ (aW.cut h1 hb.1.2) (aW.cut h2 hb.2);cases hf with
  |func f=>exact .func f
  |method n=>exact .method n
  |methodOf t n=>exact .methodOf t n
  |yield hl=>simp at hb
 |_,_,.iface t hv,hb=>.iface t (VR.cut hv tS)
 |_,_,.agg hc hl,hb=>.agg hc (aW.cut hl tS)
 |_,_,.tuple hl,hb=>.tuple (aW.cut hl tS)
def aW.cut{β:aJ}{m:Nat}:∀{v v':ae ah},aW β v v'->vC m v=true->aW (β.cut m) v v'
 |_,_,.nil,_=>.nil
 |_,_,.cons hv hl,hb=>by
  simp only[vC,eP]at hb;exact .cons (VR.cut hv hb.1) (aW.cut hl hb.2)
end
def XL{m:Nat}:∀{l:ae ah},vC m l=true->∀(j:Nat) v,l[j]? =some v->qm m v=true
 |[],_,j,v,h=>by simp at h
 |x::l,hb,0,v,h=>by simp only[vC,eP]at hb;simp at h;rw[<- h];exact hb.1
 |x::l,hb,j+1,v,h=>by simp only[vC,eP]at hb;exact XL hb.2 j v tf
def gY.cut{β:aJ}{m:Nat}{l l':ae MapEntry}(he:gY β l l')(hb:∀e∈l,qm m e.val=true):gY (β.cut m) l l':=by
 induction he with
 |nil=>exact .nil
 |cons hk hf hbn hv _ ih=>exact .cons hk hf hbn (hv.cut (hb _ (dD ..))) (ih λe he=>hb e (dB _ he))
def OR.cut{β:aJ}{m:Nat}{g:je}{w:World}{o:dL}(k:OR P β g w o)(hb:Ig m o=true):OR P (β.cut m) g w o:=by
 cases o with
 |cells cs=>
  obtain⟨h1,h2,h3,h5,h6,h7⟩:=k;exact⟨h1,h2,h3,h5,h6,λj v hj=>let⟨v',a,b⟩:=h7 j v hj;⟨v',a,b.cut (XL hb j v hj)⟩⟩
 |map es clock=>obtain⟨es',h1,h2⟩:=k;exact⟨es',h1,h2.cut (by simpa[Ig]using hb)⟩
 |_=>cases hb
def agJ{q:iI}{h:IH}{K:KR}(h0:IH)(v:ah)(hv:dG v=true)(hq:q.pm=none)(hfn:qm h0.next (.func q.fn ⟨q.args⟩ ⟨q.captured⟩)=true)
 (hgl:P.globals.size<=h0.next)
 (hsub:∀i o,h0.get i=some o->i<h0.next/\h.get i=some o/\Ig h0.next o=true)
 (M:KR) (hc:nM P q h0 M) (h1:∀r pm h',M r pm h'->pm=none/\r=.ok v/\h'.low=h0.next)
 (hk:K (.ok v) none h):nM P q h K:=by
 intro β w fn' args' cap' hG hW hfr ha hcap;have hb0:∀i g,β.cut h0.next i=some g->i<h0.next/\β i=some g:=λi g hg=>by
  simp only[aJ.cut]at hg;split at hg
  .rename_i hi;exact⟨hi,hg⟩
  .cases hg
 have hb1:∀i,i<h0.next->β.cut h0.next i=β i:=λi hi=>aJ.I7 hi
 have hG0:l9 P (β.cut h0.next):=λg hg=>by
  obtain⟨i,h1,h2⟩:=hG g hg;exact⟨i,by rw[hb1 g (pu hg hgl)];exact h1,h2⟩
 have hlive:∀i,h0.get i≠none->h.get i≠none:=λi hi=>by
  cases e:h0.get i with
  |none=>exact absurd e hi
  |some o=>rw[(hsub i o e).2.1];simp
 have hW0:WR P (β.cut h0.next) h0 w:=by
  refine⟨λi g hg=>(hb0 i g hg).1,λi o ho=>(hsub i o ho).1,?_,?_⟩
  .intro i g o hg ho;obtain⟨_,hget,hcl⟩:=hsub i o ho;exact(hW.obj i g _ (hb0 i g hg).2 hget).cut hcl
  .intro i j g k hg hk hi hj hr he;have pass:∀x,h0.get x≠none->(∀cs,h0.get x≠some (.jV cs))->∀cs,h.get x≠some (.jV cs):=λx hx q cs e=>by
    cases e0:h0.get x with
    |none=>exact hx e0
    |some o=>rw[(hsub x o e0).2.1]at e;exact q cs (by rw[e0];exact e)
   exact hW.inj i j g k (hb0 i g hg).2 (hb0 j k hk).2 (hlive i hi) (hlive j hj) (hr.imp (pass _ hi) (pass _ hj)) he
 have Az:=(VR.func hfr ha hcap).cut hfn;cases Az with
 |func agK ha0 hcap0=>
 obtain⟨nx,F0,n1,n2,n3⟩:=hc (β.cut h0.next) w fn' args' cap' hG0 hW0 agK ha0 hcap0;refine⟨nx,F0,n1,n2,λcs0 AC=>?_⟩;obtain⟨r,pm',h',β',w',r',cs1,q1,q2,q3,q4,q5,q6⟩:=n3 cs0 (by intro m hm;rw[hq]at hm;cases hm);obtain⟨hpm,rfl,hlow'⟩:=h1 r pm' h' q1;subst hpm;cases q4 with
 | @ok v v' pX=>
   have hvv:=pX.rM hv;subst hvv;have QJ:WR P β h w':=by
    refine⟨hW.dom,hW.live,?_,hW.inj⟩;intro i g o hg ho;have hor:=hW.obj i g o hg ho;by_cases hb:∀j k,β.cut h0.next j=some k->h0.get j≠none->k.b≠g.b
    .exact hor.congr (q3.keep g.b hor.lt hb)
    .have hb:∃j k,β.cut h0.next j=some k/\h0.get j≠none/\k.b=g.b:=by
      exact nn
     obtain⟨j,k,hk,hj,hkb⟩:=hb;cases e:h0.get j with
     |none=>exact absurd e hj
     |some o0=>
      obtain⟨hjn,hget,hcl⟩:=hsub j o0 e;have hij:i=j:=hW.inj i j g k hg (hb0 j k hk).2 (by rw[ho];simp) AS (.inr (by rw[hget];intro cs e;cases e;cases hcl)) hkb.symm;subst hij;rw[hget]at ho;cases ho;have QK:g=k:=by have:=(hb0 i k hk).2;rw[hg]at this;cases this;rfl
      subst QK;have hk':h'.get i=some o:=by rw[q3.kept i (by rw[hlow'];exact hjn) hjn];exact e
      have agL:=q2.obj i g _ (by rw[q3.agree i hjn];exact hk) hk';exact((hor.cut hcl).restrict (q3.le hW0.dom) agL).mono (aJ.agI _ _)
   have hE:Eff β h w β h w':=
    {agree:=λ_ _=>rfl
     next:=aZ _
     alive:=λ_ _ hn=>hn
     hid:=λ_ _ _=>rfl
     low:=aZ _
     kept:=λ_ _ _=>rfl
     os:=q3.os,tape:=q3.tape,output:=q3.output,drawn:=q3.drawn,size:=q3.size
     keep:=λb hb hno=>q3.keep b hb λi g hg hn=>hno i g (hb0 i g hg).2 (hlive i hn)
     fresh:=λi g hg hi=>absurd (hW.dom i g hg) s6
     vD:=λi g _ hi hg hn hgb=>by
      by_cases hb:∀j k,β.cut h0.next j=some k->h0.get j≠none->k.b≠g.b
      .exact q3.keep g.b hgb hb
      .have hb:∃j k,β.cut h0.next j=some k/\h0.get j≠none/\k.b=g.b:=by
        exact nn
       obtain⟨j,k,hk,hj,hkb⟩:=hb;have hjn:=(hb0 j k hk).1;rw[<- hkb];exact q3.vD j k (by rw[hlow'];exact hjn) hjn hk hj (by rw[hkb];exact hgb)}
   exact⟨_,none,h,β,w',.returned v',cs1,hk,QJ,hE,.ok (VR.free hv),by rw[hq]at q5⊢;cases q5;exact .none _,by
    exact sL⟩
def agM{q:iI}{h:IH}{K:KR}(M:KR)(hc:nM P q h M)
 (hk:∀r pm h',M r pm h'->∃h'',h''.next=h'.next/\h''.low=h'.low/\(∀i,h''.get i=h'.get i\/(h.next<=i/\h''.get i=none))/\K r pm h''):nM P q h K:=by
 intro β w fn' args' cap' hG hW hfr ha hcap;obtain⟨nx,F0,n1,n2,n3⟩:=hc β w fn' args' cap' hG hW hfr ha hcap;refine⟨nx,F0,n1,n2,λcs0 AC=>?_⟩;obtain⟨r,pm',h',β',w',r',cs1,q1,q2,q3,q4,q5,q6⟩:=n3 cs0 AC;obtain⟨h'',e1,e2,e3,e4⟩:=hk r pm' h' q1;have hlive:∀i,h''.get i≠none->h'.get i≠none:=λi hi=>by
  rcases e3 i with e|e
  .rw[e]at hi;exact hi
  .exact absurd e.2 hi
 have hget:∀i o,h''.get i=some o->h'.get i=some o:=λi o ho=>by
  rcases e3 i with e|e
  .rw[e]at ho;exact ho
  .rw[e.2]at ho;cases ho
 have pass:∀x,h''.get x≠none->(∀cs,h''.get x≠some (.jV cs))->∀cs,h'.get x≠some (.jV cs):=λx hx q cs e=>by
  rcases e3 x with e'|e'
  .exact q cs (by rw[e'];exact e)
  .exact hx e'.2
 have hold:∀i,i<h.next->h''.get i=h'.get i:=λi hi=>by
  rcases e3 i with e|e
  .exact e
  .omega
 have QJ:WR P β' h'' w':=
  ⟨λi g hg=>by rw[e1];exact q2.dom i g hg,λi o ho=>by rw[e1];exact q2.live i o (hget i o ho),λi g o hg ho=>q2.obj i g o hg (hget i o ho),
   λi j g k hg hk hi hj hr he=>q2.inj i j g k hg hk (hlive i hi) (hlive j hj) (hr.imp (pass _ hi) (pass _ hj)) he⟩
 have hE:Eff β h w β' h'' w':=
  {agree:=q3.agree
   next:=by rw[e1];exact q3.next
   alive:=λi hi hn=>q3.alive i hi (hlive i hn)
   hid:=λi hi hb=>by rw[hold i hi];exact q3.hid i hi hb
   low:=by rw[e2];exact q3.low
   kept:=λi hl hi=>by rw[hold i hi];exact q3.kept i (by rw[<- e2];exact hl) hi
   os:=q3.os,tape:=q3.tape,output:=q3.output,drawn:=q3.drawn,size:=q3.size,keep:=q3.keep,fresh:=q3.fresh
   vD:=λj k hl hj hk hn hb=>q3.vD j k (by rw[<- e2];exact hl) hj hk hn hb}
 exact⟨r,pm',h'',β',w',r',cs1,e4,QJ,hE,q4,q5,q6⟩
def XM(sN:P.follows .mixedOrders=true){q:iI}{h:IH}{K:KR}(e:CALL P q h K):nM P q h K:=by
 refine CALL.rec (P:=P) (motive_1:=λc a h K _=>nL P c a h K) (motive_2:=λds l a h K _=>qx P ds l a h K) (motive_3:=λcf ts ds m h K _=>Ay P cf ts ds m h K) (motive_4:=λq h K _=>nM P q h K)
  ?_ ?_ ?_ ?_ ?_ ?_ ?_ ?_ ?_ ?_ ?_ ?_ ?_ ?_ ?_ ?_ ?_ ?_ ?_ ?_ ?_ ?_ ?_ ?_ ?_ ?_ ?_ ?_ ?_ ?_ ?_ ?_ e
 .intros;apply afY;assumption
 .intros;apply afX sN;assumption
 .intro x y a h K M _ _ h3 i1 i2;exact afZ M i1 i2 h3
 .intro c x y a h K hc _ i1;exact Xx (t:=true) hc i1
 .intro c x y a h K hc _ i1;exact Xx (t:=false) hc i1
 .intro id c a h K M _ h2 i1;exact af1 M i1 h2
 .intro c a h K M _ _ h3 i1 i2;exact af2 M i1 i2 h3
 .intro c a h K _ i1;exact af3 i1
 .intro id a h K hk;exact af4 hk
 .intro a h K hk;exact af5 hk
 .intro f ps assign body a h K fn first captured hf a1 h1 r hr M _ hok jC i1;exact agG fn first captured hf a1 h1 r hr M i1 hok jC
 .intro c a h K a0 hw hn _ i1;exact af6 a0 hw hn i1
 .intro ds a h K hk;exact afq hk
 .intro ds s l a h K hw _ i1;exact afr hw i1
 .intro ds s l a h K hw v h' hr hs _ i1;exact afs hw v h' hr hs i1
 .intro ds s l a h K hw q hq M _ hs _ jC i1 i2;exact afC hw q hq M i1 hs i2 jC
 .intro ds s l a h K hw ho hre hm hro _ i1;exact afG hw ho hre hm hro i1
 .intro ds s l a h K hw ho hre m hm hro _ i1;exact afI hw ho hre m hm hro i1
 .intro ds s l a h K hw x ho t v hx hk;exact afE hw x ho t v hx hk
 .intro ds s l a h K hw f args ho hre hro fn first captured hf _ i1;exact afF hw f args ho hre hro fn first captured hf i1
 .intro ds s l a h K hw x ho hre alts ha _ i1;exact afP hw x ho hre alts ha i1
 .intro cf ts h K v hv hk;exact agd v hv hk
 .intro cf ts h K ch hk;exact age ch hk
 .intro cf ts args ds m h K hm r hr _ i1;exact agf hm r hr i1
 .intro cf ts fn captured args ds m h K hm M _ hpm _ _ i1 i2 i3;exact agj hm M i1 hpm i2 i3
 .intro q h K f args ht fn hf cf hcf M _ h2 _ i1 i3;exact agn f args ht fn hf cf hcf M i1 h2 i3
 .intro q h K l hq hpm r hr hargs M _ h2 _ i1 i3;exact agA l hq hpm r hr hargs M i1 h2 i3
 .intro q h K cs n f hcs hne hf M _ hq h1 hk i1;exact ags cs n f hcs hne hf M i1 hq h1 hk
 .intro q h K M _ hk i1;exact I4 M i1 hk
 .intro q h K M _ hk i1;exact agM M i1 hk
 .intro q h K h0 v hv hq hfn hnext hgl hsub M _ h1 hk i1;exact agJ h0 v hv hq hfn hgl hsub M i1 h1 hk
 .intro q h K hm;exact hm
