/- Part. -/
import Derived.Test.YtignbinlipkmfaaGreatDoorIdealCG
import Derived.Orders
set_option linter.all false
namespace Go.Ideal
variable {P:Program}
def Us{α γ:Type}{f:α->aj γ}{x:α}{l:ae α}{r:ae γ}(h:(x::l).mapM f=some r):∃y r',f x=some y/\l.mapM f=some r'/\r=y::r':=by
 simp only[List.mapM_cons]at h;cases hx:f x with
 |none=>rw[hx]at h;cases h
 |some y=>
  rw[hx]at h;cases hl:l.mapM f with
  |none=>rw[hl]at h;cases h
  |some r'=>
   rw[hl]at h;simp only[Option.bind_eq_bind,gy,Option.pure_def,aI]at h;exact⟨y,r',rfl,rfl,h.symm⟩
def Ak(i j:Nat):Bool:=decide (j<i)
def aer(ops:Array Oper):∀(os:ae Oper) (k:Nat) (done:ae Nat) (l:ae bJ),ops.toList.drop k=os->(∀j,j∈done↔j<k)->
 (os.mapM λo=>(FI P ops o).map λs=>(⟨s,[]⟩:bJ))=some l->k+os.length=ops.size->Aj P ops Ak (λ_=>true) (List.range' k os.length) done l:=by
 intro os;induction os with
 |nil=>
  intro k done l _ hd hm hk;simp only[List.mapM_nil,Option.pure_def,aI]at hm;exact⟨hm.symm,λi hi=>(hd i).2 u9⟩
 |cons o os ih=>
  intro k done l hdrop hd hm hk;obtain⟨p,r,h1,h2,rfl⟩:=Us hm;have hlt:k<ops.size:=u9
  have hko:ops[k]? =some o:=by
   have:(ops.toList.drop k)[0]? =some o:=by rw[hdrop];rfl
   rw[jR]at this;simpa using this
  cases hs:FI P ops o with
  |none=>rw[hs]at h1;cases h1
  |some s=>
   rw[hs]at h1;simp only[kD,aI]at h1;subst h1;have hbef:∀j∈done,Ak k j=true:=λj hj=>by have:=(hd j).1 hj;simpa[Ak]using this
   have hstep:vU ops Ak (λ_=>true) done k:=
    {lt:=hlt,new:=λhc=>(by have:=(hd k).1 hc;omega),pre:=λj hj=>(hd j).2 (by simpa[Ak]using hj)
     heavy:=λ_=>⟨λj hj _=>hbef j hj,λj _ hj=>(by cases hj)⟩
     own:=λhc=>(by cases hc)
     put:=λo' d _ _ j hj p _ _=>⟨rfl,hbef j hj⟩
     look:=λo' _ j hj p _ d _ _=>hbef j hj}
   refine⟨hstep,s,[],r,rfl,by simp[kG,hko,hs],λhc=>(by cases hc),λ_ j _ hj=>(by cases hj),?_⟩;refine ih (k+1) (k::done) r ?_ (λj=>?_) h2 u9
   .rw[<- List.drop_drop,hdrop];rfl
   .rw[bN,hd];omega
def aes(n:Nat)(ops:Array Oper)(hn:ops.size=n):∀(m k:Nat) (S:ae Nat),k+m=n->(∀j,j∈S↔j<k)->vV ops Ak S (List.range' k m):=by
 intro m;induction m with
 |zero=>intro k S hk hS i hi uE;exact absurd ((hS i).2 p0) uE
 |succ m ih=>
  intro k S hk hS;refine⟨p0,λhc=>by have:=(hS k).1 hc;omega,λj hj=>(hS j).2 (by simpa[Ak]using hj),?_⟩;refine ih (k+1) (k::S) p0 λj=>?_;rw[bN,hS];omega
def direct(ops:Array Oper)(i j:Nat):Prop:=∃o,ops[i]? =some o/\∃e∈o.after.toList,Region.binds .any e=true/\e.on=j
def aet(look:Nat->Nat)(j:Nat):∀(l:ae Edge) (s:Nat),(l.foldl (λs e=>if Region.binds .any e then s|||2^e.on|||look e.on else s) s).testBit j=true↔
 s.testBit j=true\/∃e∈l,Region.binds .any e=true/\(e.on=j\/(look e.on).testBit j=true):=by
 intro l;induction l with
 |nil=>intro s;simp
 |cons e l ih=>
  intro s;simp only[p9];rw[ih];cases hb:Region.binds .any e with
  |false=>simp[hb]
  |true=>
   simp only[if_true,Nat.testBit_or,yf,Nat.testBit_two_pow,Dl,bN,exists_eq_or_imp,hb,true_and];constructor
   .rintro((h|h)|h)
    .rcases h with h|h
     .exact .inl h
     .exact .inr (.inl (.inl h))
    .exact .inr (.inl (.inr h))
    .exact .inr (.inr h)
   .rintro(h|(h|h)|h)
    .exact .inl (.inl (.inl h))
    .exact .inl (.inl (.inr h))
    .exact .inl (.inr h)
    .exact .inr h
def aeu(l:ae Oper):∀(A:Array Nat),let B:=l.foldl (λ(acc:Array Nat) o=>acc.push (o.after.foldl (λs e=>if Region.binds .any e then s|||2^e.on|||acc.getD e.on 0 else s) 0)) A
 B.size=A.size+l.length/\(∀i,i<A.size->B.getD i 0=A.getD i 0)/\∀(i:Nat) o,l[i]? =some o->∃look:Nat->Nat,B.getD (A.size+i) 0=o.after.toList.foldl (λs e=>if Region.binds .any e then s|||2^e.on|||look e.on else s) 0/\∀k,look k=if k<A.size+i then B.getD k 0 else 0:=by
 induction l with
 |nil=>intro A;exact⟨rfl,λ_ _=>rfl,λi o h=>by simp at h⟩
 |cons o l ih=>
  intro A;simp only[p9];let v:=o.after.foldl (λs e=>if Region.binds .any e then s|||2^e.on|||A.getD e.on 0 else s) 0
  obtain⟨h1,h2,h3⟩:=ih (A.push v);refine⟨by rw[h1];simp;omega,λi hi=>?_,λi o' ho'=>?_⟩
  .rw[h2 i qu];simp[uk,Fp,show i≠A.size by omega]
  .cases i with
   |zero=>
    simp only[Bv,aI]at ho';subst ho';refine⟨λk=>A.getD k 0,?_,λk=>?_⟩
    .rw[wS,h2 A.size qe];have:(A.push v).getD A.size 0=v:=by simp[uk]
     rw[this];show o.after.foldl _ 0=_;rw[<- Sv]
    .simp only[wS];by_cases hk:k<A.size
     .rw[if_pos hk,h2 k qu];simp[uk,Fp,show k≠A.size by omega]
     .rw[if_neg hk];simp[uk,sN (Nat.le_of_not_lt hk)]
   |succ i=>
    obtain⟨look,q1,q2⟩:=h3 i o' (by simpa using ho');refine⟨look,?_,λk=>?_⟩
    .rw[<- q1];simp only[Array.size_push];congr 1;omega
    .rw[q2];simp only[Array.size_push];by_cases hk:k<A.size+1+i
     .rw[if_pos hk,if_pos p0]
     .rw[if_neg hk,if_neg p0]
def Om(ops:Array Oper)(i j:Nat)(hi:i<ops.size):rE ops i j=true↔direct ops i j\/∃k,direct ops i k/\k<i/\rE ops k j=true:=by
 obtain⟨_,_,h3⟩:=aeu ops.toList #[];simp only[Array.size_empty,eB,List.size_toArray,wU]at h3;obtain⟨look,q1,q2⟩:=h3 i ops[i] s9;have hB:Region.before ops=ops.toList.foldl (λ(acc:Array Nat) o=>acc.push (o.after.foldl (λs e=>if Region.binds .any e then s|||2^e.on|||acc.getD e.on 0 else s) 0)) #[]:=by
  unfold Region.before;rw[<- Sv]
 rw[<- hB]at q1 q2;show((Region.before ops).getD i 0).testBit j=true↔direct ops i j\/∃k,direct ops i k/\k<i/\((Region.before ops).getD k 0).testBit j=true;rw[q1,aet];simp only[Nat.zero_testBit,uh,false_or];have ho:ops[i]? =some ops[i]:=s9
 constructor
 .rintro⟨e,he,hb,h|h⟩
  .exact .inl ⟨_,ho,e,he,hb,h⟩
  .rw[q2]at h;split at h
   .rename_i hlt;exact .inr ⟨e.on,⟨_,ho,e,he,hb,rfl⟩,hlt,h⟩
   .simp at h
 .rintro(⟨o,ho',e,he,hb,rfl⟩|⟨k,⟨o,ho',e,he,hb,rfl⟩,hk,h⟩)
  .rw[ho]at ho';cases ho';exact⟨e,he,hb,.inl rfl⟩
  .rw[ho]at ho';cases ho';exact⟨e,he,hb,.inr (by rw[q2,if_pos hk];exact h)⟩
end Go.Ideal
namespace Go.Ideal
variable {P:Program}
variable{ops:Array Oper}{done:ae Nat}
def Ut{i:Nat}(hi:i<ops.size):BN ops done i=true↔i∉done/\∀j,direct ops i j->j∈done:=by
 have ho:ops[i]? =some ops[i]:=s9
 unfold BN;simp only[ho,dG,BA,iE,yf];constructor
 .rintro⟨h1,h2⟩;refine⟨λhc=>by simp[hc]at h1,?_⟩;rintro j ⟨o,ho',e,he,hb,rfl⟩;rw[ho]at ho';cases ho';rcases h2 e he with h|h
  .rw[hb]at h;cases h
  .simpa using h
 .rintro⟨h1,h2⟩;refine⟨by simpa using h1,λe he=>?_⟩;cases hb:Region.binds .any e with
  |false=>exact .inl rfl
  |true=>exact .inr (by simpa using h2 e.on ⟨_,ho,e,he,hb,rfl⟩)
def closed(ops:Array Oper)(done:ae Nat):Prop:=∀k∈done,∀j,rE ops k j=true->j∈done
def Uu(hcl:closed ops done){i:Nat}(hi:i<ops.size)(hd:∀j,direct ops i j->j∈done):∀j,rE ops i j=true->j∈done:=λj hj=>by
 rcases(Om ops i j hi).1 hj with h|⟨k,h1,_,h2⟩
 .exact hd j h
 .exact hcl k (hd k h1) j h2
def aev(ops:Array Oper):∀(rest done:ae Nat) (l:ae bJ),FJ ops (rE ops) (z8 P ops) rest done=true->FK (rE ops) (kG P ops) rest done=some l->closed ops done->
 Aj P ops (rE ops) (z8 P ops) rest done l:=by
 intro rest;induction rest with
 |nil=>
  intro done l ho hp _;simp only[FK,aI]at hp;refine⟨hp.symm,λi hi=>?_⟩;simp only[FJ,iE,nD]at ho;simpa using ho i hi
 |cons i rest ih=>
  intro done l ho hp hcl;simp only[FJ,dG]at ho;obtain⟨hs,ho⟩:=ho;simp only[FK]at hp;split at hp
  .rename_i s r hcs hr;simp only[aI]at hp;subst hp;obtain⟨o,hoi,gu,hdst,_⟩:=pI hcs;have hlt:i<ops.size:=(IP.1 hoi).1;have Uv:z8 P ops i=heavy s.op:=by simp[z8,hcs]
   unfold Tp at hs;rw[hoi]at hs;simp only[dG]at hs;obtain⟨⟨⟨s1,s2⟩,s3⟩,s4⟩:=hs;obtain⟨r1,r2⟩:=(Ut hlt).1 s1;have hpre:=Uu hcl hlt r2;have hstep:vU ops (rE ops) (z8 P ops) done i:=
    {lt:=hlt,new:=r1,pre:=hpre
     heavy:=λhv=>by
      rw[hv]at s2;simp only[Bool.not_true,Bool.false_or,dG,iE,yf,BA,nD]at s2;refine⟨λj hj Ju=>(s2.1 j hj).resolve_left (by rw[Ju];simp),λj hj Ju hjd=>?_⟩;have hnr:=(s2.2 j hj).resolve_left (by rw[Ju];simp);refine Classical.byContradiction λhno=>?_;have:BN ops done j=true:=(Ut hj).2 ⟨hjd,λk hk=>Decidable.byContradiction λhkd=>hno ⟨k,(Om ops j k hj).2 (.inl hk),hkd⟩⟩;rw[this]at hnr;cases hnr
     own:=λhv o' d ho' hd=>by
      rw[hoi]at ho';cases ho';rw[hd]at s3;simp only[hv,Bool.false_or,dG,BA]at s3;intro hc;have:=s3.1;rw[IQ.2 hc]at this;cases this
     put:=λo' d ho' hd j hj p hp' hc=>by
      rw[hoi]at ho';cases ho';rw[hd]at s3;simp only[dG,iE]at s3;have:=s3.2 j hj;rw[hp']at this;simp only at this;rw[if_pos (by
       simp only[yf];rcases hc with h|h
       .exact .inl (IQ.2 h)
       .exact .inr (by rw[h];simp))]at this
      simpa using this
     look:=λo' ho' j hj p hp' d hd hdl=>by
      rw[hoi]at ho';cases ho';simp only[iE]at s4;have:=s4 j hj;rw[hp']at this;simp only[hd]at this;rw[if_pos (IQ.2 hdl)]at this;exact this}
   have aew:closed ops (i::done):=λk hk j hj=>by
    exact me
   refine⟨hstep,s,_,r,rfl,hcs,λhv=>by rw[<- Uv];exact hv,λhv j hj Ju hb t ht hrd=>?_,ih (i::done) r ho hr aew⟩;rw[Uv]at hv;rw[if_pos hv];refine IM.2 ⟨j,hj,?_⟩;rw[ht];simp only[hrd,hb,M9,Fu,if_true]
  .cases hp
def aex(ops:Array Oper):∀(fuel t:Nat) (listed:Array Bool) (S:ae Nat),listed.size=ops.size->(∀j,j∈S↔listed.getD j false=true)->listed.countP (λb=>!b)<=fuel->closed ops S->
 vV ops (rE ops) S (Region.linearise.go .any ops fuel t listed []):=by
 intro fuel;induction fuel with
 |zero=>
  intro t listed S hsz hS hc _;simp only[Region.linearise.go,List.reverse_nil];intro i hi uE
  exfalso
  apply uE;rw[hS];have h0:listed.countP (λb=>!b)=0:=p0
  rw[Array.countP_eq_zero]at h0;have hlt:i<listed.size:=p0
  have:=h0 listed[i] (Array.getElem_mem hlt);simp[hlt];simpa using this
 |succ fuel ih=>
  intro t listed S hsz hS hc hcl;simp only[Region.linearise.go];have hrd:∀i,i∈Region.ready .any ops listed↔i<ops.size/\i∉S/\∀j,direct ops i j->j∈S:=by
   intro i;rw[mem_ready];constructor
   .rintro⟨h1,o,ho,h2⟩;have hlt:i<ops.size:=(IP.1 ho).1;refine⟨hlt,λuE=>?_,?_⟩
    .rw[hS]at uE;have hl:i<listed.size:=by omega
     simp[hl]at h1 uE;rw[h1]at uE;cases uE
    .rintro j ⟨o',ho',e,he,hb,rfl⟩;rw[ho]at ho';cases ho';rw[hS];exact h2 e (by simpa using he) hb
   .rintro⟨h1,h2,h3⟩;refine⟨?_,ops[i],by simp[h1],λe he hb=>?_⟩
    .rw[hS]at h2;have hl:i<listed.size:=by omega
     simp[hl]at h2⊢;exact h2
    .rw[<- hS];exact h3 e.on ⟨ops[i],by simp[h1],e,by simpa using he,hb,rfl⟩
  change vV ops (rE ops) S (match (Region.ready .any ops listed)[t%(Region.ready .any ops listed).length]? with
   |some i=>Region.linearise.go .any ops fuel (t/(Region.ready .any ops listed).length) (listed.setIfInBounds i true) [i]
   |none=>[].reverse)
  cases hi:(Region.ready .any ops listed)[t%(Region.ready .any ops listed).length]? with
  |none=>
   have hnil:Region.ready .any ops listed=[]:=by
    cases hr:Region.ready .any ops listed with
    |nil=>rfl
    |cons x xs=>
     rw[hr]at hi;have hlt:t%(x::xs).length<(x::xs).length:=zM _ qe;simp at hi;simp at hlt;omega
   show vV ops (rE ops) S [];intro i hilt uE;have hnr:i∉Region.ready .any ops listed:=by rw[hnil];simp
   rw[hrd]at hnr;refine Classical.byContradiction λhno=>hnr ⟨hilt,uE,λj hj=>Decidable.byContradiction λhjS=>hno ⟨j,(Om ops i j hilt).2 (.inl hj),hjS⟩⟩
  |some i=>
   simp only;rw[linearise_go_acc,List.reverse_singleton,List.singleton_append];obtain⟨h1,h2,h3⟩:=(hrd i).1 (aV hi);have hpre:=Uu hcl h1 h3;have hl:i<listed.size:=p0
   refine⟨h1,h2,hpre,ih _ _ _ (by simpa using hsz) (λj=>?_) ?_ ?_⟩
   .rw[bN,hS];by_cases e:j=i
    .subst e;simp[hl]
    .simp[e,IK (Ne.symm e)]
   .have hfalse:listed[i]=false:=by
     rw[hS]at h2;simp[hl]at h2;exact h2
    have:(listed.setIfInBounds i true).countP (λb=>!b)=listed.countP (λb=>!b) - 1:=by
     have:=Array.countP_set (p:=λb=>!b) (a:=true) hl;rw[Array.setIfInBounds,dif_pos hl,this];simp[hfalse]
    have hpos:0<listed.countP (λb=>!b):=by
     rw[Array.countP_pos_iff];exact⟨listed[i],Array.getElem_mem hl,by simp[hfalse]⟩
    omega
   .intro k hk j hj;exact me
def aez(sW:P.follows .mixedOrders=true){ds:ae Tmp}{l:ae bJ}{a:aU}{h:IH}{K:KO}(hM:oJ P ds l a h K):l5 P (.ops ds l) a h K:=by
 intro code it hcode hst β w b tm df k cs hG hW hA hcx;cases code<;>simp only[compile,reduceCtorEq]at hcode
 case rangeFunc f ps x y=>split at hcode<;>cases hcode
 case region id ops draw=>
  obtain rfl:it=.code (.region id ops draw):=hst.resolve_right (by rintro⟨_,h1,_⟩;cases h1);have hinv:∀(bO:Nat->Nat->Bool) (hv:Nat->Bool) (w':World),w'.heap=w.heap->w'.os=w.os->w'.tape=w.tape->w'.output=w.output->w.drawn<=w'.drawn->Inv P ops hv bO β h w [] [] β a h w' tm df:=λbO hv w' e1 e2 e3 e4 e5=>
   {uB:=trivial,sub:=λi hi=>by simp at hi,Gh:=λi hi=>by simp at hi
    pend:=⟨λ_=>0,λi hi=>by simp at hi,λi j hi=>by simp at hi⟩
    act:=⟨hA.size,λi _=>hA.tmps i λhh=>hh,hA.out,hA.defers⟩
    wr:=hW.nV e1,uC:=Eff.nV hW.dom e1 e2 e3 e4 e5}
  have hdst:∀(i:Nat) o d,ops[i]? =some o->o.dst=some d->d∈dstsOf ops:=λi o d ho hd=>IM.2 ⟨o,by simpa using Array.mem_of_getElem? ho,hd⟩;unfold I8 at hcode;cases draw with
  |false=>
   simp only[uh,if_false]at hcode;split at hcode
   .rename_i l' hl;simp only[cK.ops.injEq]at hcode;obtain⟨rfl,rfl⟩:=hcode;have hp:=aer (P:=P) ops ops.toList 0 [] l' qe qe hl qe;have hr:=aes ops.size ops rfl ops.size 0 [] p0 qe;refine .of_steps (.one adK) (hM ops Ak (λ_=>true) _ [] [] hp hdst β h w a.pm a.ro cs β w b tm df k cs (List.range ops.size) hG hW.dom hcx (hinv _ _ w rfl rfl rfl rfl (bz _)) ?_ hcx.start rfl);rw[List.range_eq_range'];exact hr
   .cases hcode
  |true=>
   simp only[if_true]at hcode;split at hcode
   .rename_i l' hl;simp only[cK.ops.injEq]at hcode;obtain⟨rfl,rfl⟩:=hcode;unfold Tq at hl;simp only at hl;split at hl
    .rename_i hok;have hp:=aev (P:=P) ops _ [] l' hok hl (λk hk=>by simp at hk);refine .of_steps (.one adL) (hM ops (rE ops) (z8 P ops) _ [] [] hp hdst β h w a.pm a.ro cs β {w with drawn:=w.drawn+1} b tm df k cs _ hG hW.dom hcx (hinv _ _ {w with drawn:=w.drawn+1} rfl rfl rfl rfl (zI _)) ?_ hcx.start rfl);simp only[Region.schedule,sW,Bool.true_or,if_true,Region.linearise];refine aex ops _ _ _ [] qe (λj=>?_) ?_ (λk hk=>by simp at hk)
     .simp only[Fs,false_iff];intro hc;by_cases hj:j<ops.size
      .simp[hj]at hc
      .simp[hj]at hc
     .simpa using Array.countP_le_size (xs:=Array.replicate ops.size false) (p:=λb=>!b)
    .cases hl
   .cases hcode
end Go.Ideal
namespace Go.Ideal
variable {P:Program}
def Oh.code{code:Code}{it:Item}(h:Oh code it)(hn:∀body,code≠.loop body):it=.code code:=h.resolve_right (by rintro⟨b,h1,_⟩;exact hn b h1)
def yM{ops:Array Oper}{draw:Bool}{c:cK}(h:I8 P ops draw=c):(∃ds l,c=.ops ds l)\/c=.fail:=by
 unfold I8 at h;split at h
 .exact .inl ⟨_,_,h.symm⟩
 .exact .inr h.symm
def Post.after{β0:aD}{h0:IH}{w0:World}{jW:aj FrameMode}{jr:aj Nat}{b:Frame}{cs0 cs1:ae Frame}{k:ae Item}{K:KO}{M:Machine}{β1:aD}{h1:IH}{w1:World}{Uw:aj FrameMode}
 (he:Eff β0 h0 w0 β1 h1 w1) (hc:oI β1 jW Uw cs0 cs1) (hp:Post P β1 h1 w1 Uw jr b cs1 k K M):Post P β0 h0 w0 jW jr b cs0 k K M:=by
 obtain⟨o,a',h',β',w',tm',fV,cs',q1,q2,q3,q4,q5,q6,q7⟩:=hp;exact⟨o,a',h',β',w',tm',fV,cs',q1,q2,he.trans q3,q4,hc.trans q5,q6,q7⟩
section
variable {a:aU} {h:IH} {K:KO}
def aeA(hk:K .normal a h):l5 P .skip a h K:=by
 intro code it hcode hst β w b tm df k cs hG hW hA hcx;cases code<;>simp only[compile,reduceCtorEq]at hcode
 case skip=>
  obtain rfl:=hst.code qe;exact⟨.normal,a,h,β,w,tm,df,cs,hk,hW,Eff.refl _ _ _ hW.dom,hA,hcx.start,rfl,.one adA⟩
 case label l=>
  obtain rfl:=hst.code qe;exact⟨.normal,a,h,β,w,tm,df,cs,hk,hW,Eff.refl _ _ _ hW.dom,hA,hcx.start,rfl,.one adB⟩
 case region id ops draw=>rcases yM hcode with⟨_,_,h1⟩|h1<;>cases h1
 case rangeFunc f ps x y=>split at hcode<;>cases hcode
variable{x y:cK}
def aeB(M:KO)(h1:l5 P x a h M)(h2:∀a' h',M .normal a' h'->l5 P y a' h' K)(h3:∀o a' h',M o a' h'->o≠.normal->K o a' h'):l5 P (.seq x y) a h K:=by
 intro code it hcode hst β w b tm df k cs hG hW hA hcx;cases code<;>simp only[compile,reduceCtorEq]at hcode
 case region id ops draw=>rcases yM hcode with⟨_,_,h1⟩|h1<;>cases h1
 case rangeFunc f ps x y=>split at hcode<;>cases hcode
 case seq cx cy=>
  simp only[cK.seq.injEq]at hcode;obtain⟨Gs,hcy⟩:=hcode;obtain rfl:=hst.code qe;obtain⟨o,a',h',β',w',tm',fV,cs',q1,q2,q3,q4,q5,q6,q7⟩:=h1 cx _ Gs (.inl rfl) β w b tm df (.code cy::k) cs hG hW hA hcx;have hle:=q3.le hW.dom;cases o with
  |normal=>
   have:=h2 a' h' q1 cy _ hcy (.inl rfl) β' w' b tm' fV k cs' (hG.le hle) q2 q4 xT;rw[q6]at this;exact .of_steps ((Steps.one Jo).trans q7) (this.after q3 q5)
  |exit id=>
   obtain⟨todo,e1,e2⟩:=q7;exact⟨_,a',h',β',w',tm',fV,cs',h3 _ _ _ q1 qe,q2,q3,q4,q5,q6,todo,e1.trans (by simp[exitTo]),(Steps.one Jo).trans e2⟩
  |ret=>
   obtain⟨todo,e2⟩:=q7;exact⟨_,a',h',β',w',tm',fV,cs',h3 _ _ _ q1 qe,q2,q3,q4,q5,q6,todo,(Steps.one Jo).trans e2⟩
  |panic ch=>
   obtain⟨todo,ch',e1,e2⟩:=q7;exact⟨_,a',h',β',w',tm',fV,cs',h3 _ _ _ q1 qe,q2,q3,q4,q5,q6,todo,ch',e1,(Steps.one Jo).trans e2⟩
def aeC{β:aD}{tm:Array ah}{df:ae Deferred}(hA:AR β none' a tm df){c:ak}{t:Bool}(hc:a.eval c=.bool t):Act.eval ⟨tm,df⟩ c=.bool t:=by
 cases c with
 |tmp i=>
  have:=hA.tmps i (λhh=>hh);have hc':dD a.tmps i=.bool t:=hc;rw[hc']at this;exact this.Jg
 |const v=>exact hc
 |global g=>cases hc
 |func f=>cases hc
def Ux{c:ak}{t:Bool}(hc:a.eval c=.bool t)(h1:l5 P (if t then x else y) a h K):l5 P (.cond c x y) a h K:=by
 intro code it hcode hst β w b tm df k cs hG hW hA hcx;cases code<;>simp only[compile,reduceCtorEq]at hcode
 case region id ops draw=>rcases yM hcode with⟨_,_,h1⟩|h1<;>cases h1
 case rangeFunc f ps x y=>split at hcode<;>cases hcode
 case cond c' cx cy=>
  simp only[cK.cond.injEq]at hcode;obtain⟨rfl,Gs,hcy⟩:=hcode;obtain rfl:=hst.code qe;refine .of_steps (.one (adG (aeC hA hc))) (h1 (if t then cx else cy) _ ?_ (.inl rfl) β w b tm df k cs hG hW hA hcx);cases t
  .exact hcy
  .exact Gs
variable{c:cK}{id:Nat}
def aeD(M:KO)(h1:l5 P c a h M)(h2:∀o a' h',M o a' h'->K (inBlock id o) a' h'):l5 P (.block id c) a h K:=by
 intro code it hcode hst β w b tm df k cs hG hW hA hcx;cases code<;>simp only[compile,reduceCtorEq]at hcode
 case region id ops draw=>rcases yM hcode with⟨_,_,h1⟩|h1<;>cases h1
 case rangeFunc f ps x y=>split at hcode<;>cases hcode
 case block id' cx=>
  simp only[cK.block.injEq]at hcode;obtain⟨rfl,Gs⟩:=hcode;obtain rfl:=hst.code qe;obtain⟨o,a',h',β',w',tm',fV,cs',q1,q2,q3,q4,q5,q6,q7⟩:=h1 cx _ Gs (.inl rfl) β w b tm df (.inBlock id'::k) cs hG hW hA hcx;have hk:=h2 o a' h' q1;cases o with
  |normal=>exact⟨.normal,a',h',β',w',tm',fV,cs',hk,q2,q3,q4,q5,q6,((Steps.one Gd).trans q7).trans (.one adC)⟩
  |exit j=>
   obtain⟨todo,e1,e2⟩:=q7;cases hb:Nat.beq j id' with
   |true=>
    have hj:j=id':=rq hb;subst hj;have hk':K .normal a' h':=by
     have:inBlock j (.exit j)=.normal:=by simp only[inBlock,hb,cond_true]
     rw[this]at hk;exact hk
    have he:exitTo j todo=some k:=by rw[e1];simp[exitTo]
    exact⟨.normal,a',h',β',w',tm',fV,cs',hk',q2,q3,q4,q5,q6,((Steps.one Gd).trans e2).trans (.one (adH he))⟩
   |false=>
    have hj:j≠id':=Fj hb;have hk':K (.exit j) a' h':=by
     have:inBlock id' (.exit j)=.exit j:=by simp only[inBlock,hb,cond_false]
     rw[this]at hk;exact hk
    exact⟨.exit j,a',h',β',w',tm',fV,cs',hk',q2,q3,q4,q5,q6,todo,e1.trans (by simp[exitTo,Ne.symm hj]),(Steps.one Gd).trans e2⟩
  |ret=>
   obtain⟨todo,e2⟩:=q7;exact⟨.ret,a',h',β',w',tm',fV,cs',hk,q2,q3,q4,q5,q6,todo,(Steps.one Gd).trans e2⟩
  |panic ch=>
   obtain⟨todo,ch',e1,e2⟩:=q7;exact⟨.panic ch,a',h',β',w',tm',fV,cs',hk,q2,q3,q4,q5,q6,todo,ch',e1,(Steps.one Gd).trans e2⟩
def aeE(M:KO)(h1:l5 P c a h M)(h2:∀a' h',M .normal a' h'->l5 P (.loop c) a' h' K)(h3:∀o a' h',M o a' h'->o≠.normal->K o a' h'):l5 P (.loop c) a h K:=by
 intro code it hcode hst β w b tm df k cs hG hW hA hcx;cases code<;>simp only[compile,reduceCtorEq]at hcode
 case region id ops draw=>rcases yM hcode with⟨_,_,h1⟩|h1<;>cases h1
 case rangeFunc f ps x y=>split at hcode<;>cases hcode
 case loop cx=>
  simp only[cK.loop.injEq]at hcode;have hstep:step P (lone (fr b tm df (it::k)) cs w)=.next (lone (fr b tm df (.code cx::.inLoop cx::k)) cs w):=by
   rcases hst with rfl|⟨body,hb,rfl⟩
   .exact adE
   .simp only[Code.loop.injEq]at hb;subst hb;exact adF
  obtain⟨o,a',h',β',w',tm',fV,cs',q1,q2,q3,q4,q5,q6,q7⟩:=h1 cx _ hcode (.inl rfl) β w b tm df (.inLoop cx::k) cs hG hW hA hcx;have hle:=q3.le hW.dom;cases o with
  |normal=>
   have:=h2 a' h' q1 (.loop cx) (.inLoop cx) (by simp[compile,hcode]) (.inr ⟨cx,rfl,rfl⟩) β' w' b tm' fV k cs' (hG.le hle) q2 q4 xT;rw[q6]at this;exact .of_steps ((Steps.one hstep).trans q7) (this.after q3 q5)
  |exit id=>
   obtain⟨todo,e1,e2⟩:=q7;exact⟨_,a',h',β',w',tm',fV,cs',h3 _ _ _ q1 qe,q2,q3,q4,q5,q6,todo,e1.trans (by simp[exitTo]),(Steps.one hstep).trans e2⟩
  |ret=>
   obtain⟨todo,e2⟩:=q7;exact⟨_,a',h',β',w',tm',fV,cs',h3 _ _ _ q1 qe,q2,q3,q4,q5,q6,todo,(Steps.one hstep).trans e2⟩
  |panic ch=>
   obtain⟨todo,ch',e1,e2⟩:=q7;exact⟨_,a',h',β',w',tm',fV,cs',h3 _ _ _ q1 qe,q2,q3,q4,q5,q6,todo,ch',e1,(Steps.one hstep).trans e2⟩
def aeF(h1:l5 P c a h K):l5 P (.scope c) a h K:=by
 intro code it hcode hst β w b tm df k cs hG hW hA hcx;cases code<;>simp only[compile,reduceCtorEq]at hcode
 case region id ops draw=>rcases yM hcode with⟨_,_,h1⟩|h1<;>cases h1
 case rangeFunc f ps x y=>split at hcode<;>cases hcode
 case scope cx=>
  simp only[cK.scope.injEq]at hcode;obtain rfl:=hst.code qe;obtain⟨o,a',h',β',w',tm',fV,cs',q1,q2,q3,q4,q5,q6,q7⟩:=h1 cx _ hcode (.inl rfl) β w b tm df (.inScope cx::k) cs hG hW hA hcx;cases o with
  |normal=>exact⟨_,a',h',β',w',tm',fV,cs',q1,q2,q3,q4,q5,q6,((Steps.one Jp).trans q7).trans (.one adD)⟩
  |exit id=>
   obtain⟨todo,e1,e2⟩:=q7;exact⟨_,a',h',β',w',tm',fV,cs',q1,q2,q3,q4,q5,q6,todo,e1.trans (by simp[exitTo]),(Steps.one Jp).trans e2⟩
  |ret=>
   obtain⟨todo,e2⟩:=q7;exact⟨_,a',h',β',w',tm',fV,cs',q1,q2,q3,q4,q5,q6,todo,(Steps.one Jp).trans e2⟩
  |panic ch=>
   obtain⟨todo,ch',e1,e2⟩:=q7;exact⟨_,a',h',β',w',tm',fV,cs',q1,q2,q3,q4,q5,q6,todo,ch',e1,(Steps.one Jp).trans e2⟩
def aeG(hk:K (.exit id) a h):l5 P (.exit id) a h K:=by
 intro code it hcode hst β w b tm df k cs hG hW hA hcx;cases code<;>simp only[compile,reduceCtorEq]at hcode
 case region id ops draw=>rcases yM hcode with⟨_,_,h1⟩|h1<;>cases h1
 case rangeFunc f ps x y=>split at hcode<;>cases hcode
 case exit j=>
  simp only[cK.exit.injEq]at hcode;subst hcode;obtain rfl:=hst.code qe;exact⟨_,a,h,β,w,tm,df,cs,hk,hW,Eff.refl _ _ _ hW.dom,hA,hcx.start,rfl,k,rfl,Steps.refl P _⟩
def aeH(hk:K .ret a h):l5 P .ret a h K:=by
 intro code it hcode hst β w b tm df k cs hG hW hA hcx;cases code<;>simp only[compile,reduceCtorEq]at hcode
 case region id ops draw=>rcases yM hcode with⟨_,_,h1⟩|h1<;>cases h1
 case rangeFunc f ps x y=>split at hcode<;>cases hcode
 case ret=>
  obtain rfl:=hst.code qe;exact⟨_,a,h,β,w,tm,df,cs,hk,hW,Eff.refl _ _ _ hW.dom,hA,hcx.start,rfl,k,Steps.refl P _⟩
def aeI(a0:aU)(hw:∀i,dD a0.tmps i=dH\/dD a0.tmps i=dD a.tmps i)(hn:a0.n=a.n/\a0.defers=a.defers/\a0.pm=a.pm/\a0.ro=a.ro)(h1:l5 P c a0 h K):l5 P c a h K:=by
 intro code it hcode hst β w b tm df k cs hG hW hA hcx;obtain⟨n1,n2,n3,n4⟩:=hn;have Gt:AR β none' a0 tm df:=⟨by rw[n1];exact hA.size,λi hi=>by
  rcases hw i with e|e
  .rw[e];exact .dH _
  .rw[e];exact hA.tmps i hi,λi hi=>by
  rw[n1]at hi;rcases hw i with e|e
  .exact e
  .rw[e];exact hA.out i hi,by rw[n2];exact hA.defers⟩
 have:=h1 code it hcode hst β w b tm df k cs hG hW Gt (by rw[n3,n4];exact hcx);rw[n3,n4]at this;exact this
end
end Go.Ideal
namespace Go.Ideal
variable {P:Program}
def aeJ(ts:T ah)(h:IH)(r:rF)(l:ae rF):yC ts h (r::l)=match uu ts h r,yC ts h l with
 |some v,some vs=>some (v::vs)
 |_,_=>none:=rfl
def D7(tm:Array ah):ResultVar->Sem ah
 | .tmp t=>pure (tm.getD t undef)
 | .cell a t=>do loadVar t (<- asAddr (tm.getD a undef))
def aeK(fn:Func)(tm:Array ah):results fn tm=(do
 let vs <- fn.results.mapM (D7 tm)
 pure (if h:vs.size=1 then vs[0]else .tuple vs)):=by
 have:(λ(r:ResultVar)=>match r with
  | .tmp t=>(pure (tm.getD t undef):Sem ah)
  | .cell a t=>do loadVar t (<- asAddr (tm.getD a undef)))=D7 tm:=by
  funext r;cases r<;>rfl
 rw[<- this];rfl
variable{β:aD}{h:IH}{w:World}{ts:T ah}{tm:Array ah}
def aeL(hW:WR P β h w)(ht:∀i,VR β (dD ts i) (tm.getD i undef)){r:ResultVar}{c:rF}(hc:FL P r=some c){v:ah}(hv:uu ts h c=some v):
 ∃v',(D7 tm r).run P w=.ok v' w/\VR β v v':=by
 cases r with
 |tmp t=>
  simp only[FL,aI]at hc;subst hc;simp only[uu,aI]at hv;subst hv;exact⟨_,rfl,ht t⟩
 |cell a t=>
  simp only[FL]at hc;split at hc
  .rename_i hagg;cases hs:jE P t with
   |none=>simp[hs]at hc
   |some n=>
    simp only[hs,kD,aI]at hc;subst hc;simp only[uu]at hv;split at hv
    .rename_i i o ha;have hx:=ht a;rw[ha]at hx;obtain⟨g,hg,hx'⟩:=hx.vT;split at hv
     .rename_i cs hcs;simp only[aI]at hv;subst hv;obtain⟨blk,hb,hl⟩:=TC hcs;obtain⟨l1,l2,l',l3,l4⟩:=Jf hW hg (.inl hb) hl;obtain⟨d,hd⟩:=TB hagg;refine⟨.agg ⟨l'⟩,?_,.agg l2 l3⟩;have:=NA (P:=P) (n:=n) (by rw[l3.length,l1]) l4;simp only[D7,dm,hx',asAddr,ed,dB,loadVar,DL hd,hagg,nJ hs,this,if_true]
     .cases hv
    .cases hv
  .rename_i hagg;split at hc
   .rename_i d hd;simp only[aI]at hc;subst hc;simp only[uu]at hv;split at hv
    .rename_i i o ha;have hx:=ht a;rw[ha]at hx;obtain⟨g,hg,hx'⟩:=hx.vT;split at hv
     .rename_i cs hcs;obtain⟨_,_,_,_,_,h7⟩:=hW.obj i g _ hg hcs;rw[rP]at hv;obtain⟨v',q1,q2⟩:=h7 _ _ hv;have NE:kv P t=false:=by simpa using hagg
      refine⟨v',?_,q2⟩;simp only[D7,dm,hx',asAddr,ed,dB,loadVar,DL hd,NE,uh,if_false];simp[q1]
     .cases hv
    .cases hv
   .cases hc
def aeM(hW:WR P β h w)(ht:∀i,VR β (dD ts i) (tm.getD i undef)):∀(rs:ae ResultVar) (cs:ae rF) (vs:ae ah),rs.mapM (FL P)=some cs->yC ts h cs=some vs->
 ∃vs',(rs.mapM (D7 tm)).run P w=.ok vs' w/\aQ β vs vs':=by
 intro rs;induction rs with
 |nil=>
  intro cs vs hc hv;simp only[List.mapM_nil,Option.pure_def,aI]at hc;subst hc;change some []=some vs at hv
  simp only[aI]at hv;subst hv;exact⟨[],rfl,.nil⟩
 |cons r rs ih=>
  intro cs vs hc hv;obtain⟨c,cs',h1,h2,rfl⟩:=Us hc;rw[aeJ]at hv;split at hv
  .rename_i v vs1 hv1 aeN;simp only[aI]at hv;subst hv;obtain⟨v',q1,q2⟩:=aeL hW ht h1 hv1;obtain⟨vs',q3,q4⟩:=ih cs' vs1 h2 aeN;refine⟨v'::vs',?_,.cons q2 q4⟩;simp only[List.mapM_cons,dm,q1,dB,q3,ed]
  .cases hv
def aeO(hW:WR P β h w)(ht:∀i,VR β (dD ts i) (tm.getD i undef)){fn:Func}{cf:gK}(hc:vJ P fn=some cf){v:ah}(hv:rH cf.results ts h=some v):
 ∃v',(results fn tm).run P w=.ok v' w/\VR β v v':=by
 unfold vJ at hc;split at hc
 .rename_i body rs hb hrs;split at hc
  .cases hc
  simp only[aI]at hc;subst hc;have key:∀vs,yC ts h rs=some vs->∃vs',aQ β vs vs'/\(results fn tm).run P w=.ok (if hh:(⟨vs'⟩:Array ah).size=1 then(⟨vs'⟩:Array ah)[0]else .tuple ⟨vs'⟩) w:=λvs hvs=>by
   obtain⟨vs',q1,q2⟩:=aeM hW ht fn.results.toList rs vs hrs hvs;refine⟨vs',q2,?_⟩;rw[aeK,Array.mapM_eq_mapM_toList];simp only[map_eq_pure_bind,bind_assoc,pure_bind,dm];rw[q1];simp only[dB,ed]
  unfold rH at hv;split at hv
  .rename_i v1 hvs;simp only[aI]at hv;subst hv;obtain⟨vs',q1,q2⟩:=key _ hvs;cases q1 with
   |cons h1 h2=>
    cases h2;exact⟨_,q2,h1⟩
  .rename_i vs hnot hvs;simp only[aI]at hv;subst hv;obtain⟨vs',q1,q2⟩:=key _ hvs;refine⟨_,q2,?_⟩;have hne:¬(⟨vs'⟩:Array ah).size=1:=by
    intro h1;have hl:vs.length=1:=by rw[<- q1.length];exact h1
    match vs,hl with
    |[x],_=>exact hnot x rfl
   rw[dif_neg hne];exact .tuple q1
  .cases hv
 .cases hc
section
variable {cf:gK} {ts:T ah} {h:IH} {K:iL->IH->Prop}
def aeP(v:ah)(hv:rH cf.results ts h=some v)(hk:K (.ok v) h):yJ P cf ts [] .returning h K:=by
 intro β w F cs fn hG hW hm hd ht hf hc;obtain⟨v',q1,q2⟩:=aeO hW ht hc hv;have hmode:F.mode=.returning:=by generalize F.mode=m at hm;cases hm;rfl
 have hdef:F.defers=[]:=x6
 exact⟨.ok v,h,β,w,F,.returned v',hk,hW,Eff.refl _ _ _ hW.dom,.ok q2,Steps.refl P _,rfl,rfl,hmode,hdef,fn,hf,q1⟩
def aeQ(ch:ae PanicEntry)(hk:K (.fD ch) h):yJ P cf ts [] (.panicking ch) h K:=by
 intro β w F cs fn hG hW hm hd ht hf hc;have hdef:F.defers=[]:=x6
 cases hmo:F.mode with
 |run=>rw[hmo]at hm;cases hm
 |returning=>rw[hmo]at hm;cases hm
 |panicking ch'=>
  rw[hmo]at hm;cases hm with
  |panicking hp=>exact⟨.fD ch,h,β,w,F,.panicked ch',hk,hW,Eff.refl _ _ _ hW.dom,.fD hp,Steps.refl P _,rfl,rfl,hmo,hdef,fn,hf⟩
variable{m:FrameMode}
def MR.Uy{β:aD}{m':FrameMode}(h:MR β m m')(hm:m≠.run):m'≠.run:=by
 cases h<;>simp at hm⊢
def aeR{args:Array ah}{ds:ae Deferred}(hm:m≠.run)(r:Nat)(hr:h.get r=some (.iU true))(h1:yJ P cf ts ds m (h.set r (.iU false)) K):
 yJ P cf ts ({target:=.collected r,args}::ds) m h K:=by
 intro β w F cs fn hG hW hmr hd ht hf hc;generalize hdd:F.defers=d at hd;cases hd with
 | @coll _ g _ a' _ ds' hb hl=>
   have ho:=hW.obj r g _ hb hr;have ho:w.heap[g.b]? =some (.deferred (some [])):=ho;have hlt:g.b<w.heap.size:=by
    rcases sM g.b w.heap.size with hh|hh
    .exact hh
    .rw[sN hh]at ho;cases ho
   obtain⟨z1,z2,z3⟩:=Gb (w:=w) (o:=.deferred none) hlt;obtain⟨y1,y2⟩:=hW.write hb hr (.iU false) z1 z2 rfl rfl rfl (bz _) z3;have hrun:=MR.Uy hmr hm;have hstep:step P (lone F cs w)=.next (lone {F with defers:=ds'} cs (w.putObj g.b (.deferred none))):=by
    refine step_lone_go ?_;have ht:=run_takeDeferred (P:=P) ho;cases hmo:F.mode with
    |run=>exact absurd hmo hrun
    |returning=>simp[stepG,unwind,hmo,hdd,ht]
    |panicking ch=>simp[stepG,unwind,hmo,hdd,ht]
   obtain⟨rr,h',β',w',F1,r',q1,q2,q3,q4,q5,q6,q7,q8⟩:=h1 β (w.putObj g.b (.deferred none)) {F with defers:=ds'} cs fn hG y1 hmr hl ht hf hc;exact⟨rr,h',β',w',F1,r',q1,q2,y2.trans q3,q4,.head hstep q5,q6,q7,q8⟩
end
end Go.Ideal
namespace Go.Ideal
variable {P:Program}
variable{β:aD}
def pG.dropWhile{l l':ae PanicEntry}(h:pG β l l'):pG β (l.dropWhile (!·.goexit)) (l'.dropWhile (!·.goexit)):=by
 induction h with
 |nil=>exact .nil
 | @cons e e' l l' hv hr hg hl ih=>
   simp only[List.dropWhile_cons,hg];cases e.goexit with
   |true=>exact .cons hv hr hg hl
   |false=>exact ih
variable{m mr:FrameMode}
def aeS(h:MR β m mr):MR β (Aa m) (settle mr):=by
 cases h with
 |run=>exact .run
 |returning=>exact .returning
 |panicking hp=>
  cases hp with
  |nil=>exact .panicking .nil
  | @cons e e' l l' hv hr hg hl=>
    obtain⟨ev,er,eg⟩:=e';simp only at hv hr hg;cases her:e.recovered with
    |false=>
     rw[her]at hr;subst hr;simp only[Aa,her,cond_false,settle];exact .panicking (.cons hv her.symm hg hl)
    |true=>
     rw[her]at hr;subst hr;simp only[Aa,her,cond_true,settle];have hd:=hl.dropWhile;generalize l.dropWhile (!·.goexit)=x at hd;generalize l'.dropWhile (!·.goexit)=y at hd;cases hd with
     |nil=>exact .returning
     |cons a b c d=>exact .panicking (.cons a b c d)
def aeT(h:MR β m mr){ch ch':ae PanicEntry}(hc:pG β ch ch'):MR β (Dw m ch) (raised mr ch'):=by
 cases h with
 |run=>exact .panicking hc
 |returning=>exact .panicking hc
 |panicking hp=>exact .panicking (hc.append hp)
def Uz{β':aD}(hle:β.le β'){ts:T ah}{tm:Array ah}(h:∀i,VR β (dD ts i) (tm.getD i undef)):∀i,VR β' (dD ts i) (tm.getD i undef):=λi=>(h i).mono hle
variable{h:IH}{args:ae ah}
def aeU{cf:gK}{ts:T ah}{K:iL->IH->Prop}{fn:Fn}{captured:ae ah}{ds:ae Deferred}(hm:m≠.run)(M:KR)(hc:kI P ⟨fn,args,captured,some m⟩ h M)
 (hpm:∀r pm h',M r pm h'->pm≠none) (hok:∀v m' h',M (.ok v) (some m') h'->yJ P cf ts ds (Aa m') h' K) (jv:∀ch m' h',M (.fD ch) (some m') h'->yJ P cf ts ds (Dw m' ch) h' K):
 yJ P cf ts ({target:=.fn fn ⟨captured⟩,args:=⟨args⟩}::ds) m h K:=by
 intro β w F cs UA hG hW hmr hd ht hf hcf;generalize hdd:F.defers=d at hd;cases hd with
 | @fn _ fn' _ c' _ a' _ ds' h1 h2 h3 hl=>
   obtain⟨nx,F0,n1,n2,n3⟩:=hc β w fn' a' c' hG hW h1 h3 h2;obtain⟨r,pm',h',β',w',r',cs1,q1,q2,q3,q4,q5,q6⟩:=n3 ({F with defers:=ds'}::cs) (λm0 hm0=>by simp only[aI]at hm0;subst hm0;exact⟨_,cs,rfl,hmr⟩);cases q5 with
   |some _ m' _ _ mr UB=>
   rcases q6 with⟨f,args',F1,e1,e2,e3,e4,e5⟩|⟨e1,_⟩
   .subst e1;simp only[entry,aI]at n2;subst n2;have hrun:=MR.Uy hmr hm;have hle:=q3.le hW.dom;have s1:=step_defer (cs:=cs) hrun hdd rfl n1;have hk:F1.kind=.deferred:=e4;cases q4 with
    | @ok v v' hv=>
      have s2:=step_going_returned (c:={{F with defers:=ds'}with mode:=mr}) (cs:=cs) hk e5;obtain⟨rr,h2',β2,w2,F2,r2,p1,p2,p3,p4,p5,p6,p7,p8⟩:=hok v m' h' q1 β' w' {{F with defers:=ds'}with mode:=settle mr} cs UA (hG.le hle) q2 (aeS UB) (hl.mono hle) (Uz hle ht) hf hcf;exact hJ
    | @fD ch ch' hch=>
      have s2:=step_going_panicked (c:={{F with defers:=ds'}with mode:=mr}) (cs:=cs) e5;obtain⟨rr,h2',β2,w2,F2,r2,p1,p2,p3,p4,p5,p6,p7,p8⟩:=jv ch m' h' q1 β' w' {{F with defers:=ds'}with mode:=raised mr ch'} cs UA (hG.le hle) q2 (aeT UB hch) (hl.mono hle) (Uz hle ht) hf hcf;exact hJ
   .cases e1.1
variable{q:aX}
def D8{K:KR}(M:KR)(hc:kI P q h M)(hk:∀r pm h',M r pm h'->K r pm h'):kI P q h K:=by
 intro β w fn' args' cap' hG hW hf ha hcap;obtain⟨nx,F0,n1,n2,n3⟩:=hc β w fn' args' cap' hG hW hf ha hcap;refine⟨nx,F0,n1,n2,λcs0 hcs=>?_⟩;obtain⟨r,pm',h',β',w',r',cs1,q1,q2,q3,q4,q5,q6⟩:=n3 cs0 hcs;exact⟨r,pm',h',β',w',r',cs1,hk _ _ _ q1,q2,q3,q4,q5,q6⟩
variable{f:eD}
def Jv{t:aB}{v:ah}{name:String}{r:ah}(h:Dx P t v name=some (f,r)):r=v/\∀(n:Nat) (v':ah) (w:World),(method (n+1) t v' name).run P w=.ok (f,v') w:=by
 unfold Dx at h;split at h
 .cases h
 .rename_i info hi;split at h
  .cases h
  .rename_i m hm;split at h
   .cases h
   .rename_i hp;have hp0:m.path= #[]:=ach (by simpa using hp);split at h
    .rename_i f0 ptr hfn;have UC:∀(v':ah) (w:World),(follow m.path.toList t (.val v')).run P w=.ok (t,.val v') w:=λv' w=>by rw[hp0];rfl
     split at h
     .rename_i e hu;simp only[aI,cB]at h;obtain⟨rfl,rfl⟩:=h;refine⟨rfl,λn v' w=>?_⟩;simp only[method,dm,FW hi,dB,hm,UC,hfn,receiverAt,fE hu,Place.get,ed]
     .cases h
     .rename_i d hnp hu;simp only[aI,cB]at h;obtain⟨rfl,rfl⟩:=h;refine⟨rfl,λn v' w=>?_⟩;simp only[method,dm,FW hi,dB,hm,UC,hfn,receiverAt,fE hu];cases d<;>first|rfl|exact absurd rfl (hnp _)
     .cases h
    .cases h
def Al(ht:target P q=some (f,args)){β:aD}{fn':Fn}{args' cap':ae ah}(hf:FR β q.fn fn')(ha:aQ β q.args args')(hc:aQ β q.captured cap'){fn:Func}(hfn:P.funcs[f]? =some fn){body:Code}(hb:fn.body=some body)
 (hname:fn.name≠ "runtime.NumGoroutine") (w:World):∃jf,(invoke (.fn fn' ⟨cap'⟩) ⟨args'⟩).run P w=.ok (.enter f ⟨jf⟩) w/\aQ β args jf:=by
 have hcall:∀(xs:Array ah),(callFunc f xs).run P w=.ok (.enter f xs) w:=λxs=>by
  exact eV
 have Oo:∀(t:aB) (v v' r:ah) (name:String) (xs:ae ah),Dx P t v name=some (f,r)->(callMethod (.iface t v') name ⟨xs⟩).run P w=.ok (.enter f ⟨v'::xs⟩) w:=λt v v' r name xs hm=>by
  obtain⟨_,h2⟩:=Jv hm;have hd:P.types.size+Made.depth=(P.types.size+(Made.depth - 1))+1:=rfl;have he:(#[v']:Array ah)++(⟨xs⟩:Array ah)=⟨v'::xs⟩:=sL
  simp only[callMethod,dm,run_program,dB,hd,h2,he];exact hcall _
 unfold target at ht;cases Gu:q.fn with
 |func f0=>
  rw[Gu]at ht hf;simp only[aI,cB]at ht;obtain⟨rfl,rfl⟩:=ht;cases hf;refine⟨args'++cap',?_,by rw[jc];exact ha.append hc⟩;have:(⟨args'⟩:Array ah)++(⟨cap'⟩:Array ah)=⟨args'++cap'⟩:=sL
  simp only[invoke,this];exact hcall _
 |method name=>
  rw[Gu]at ht hf;simp only at ht;cases hf;split at ht
  .rename_i t v as Oq;split at ht
   .rename_i f1 r hm;simp only[aI,cB]at ht;obtain⟨rfl,rfl⟩:=ht;rw[Oq]at ha;cases ha with
    | @cons _ x' _ as' hv hl=>
      obtain⟨v',hv',rfl⟩:=hv.Ca;obtain⟨rfl,_⟩:=Jv hm;refine⟨v'::as',?_,.cons hv' hl⟩;have h0:(⟨Value.iface t v'::as'⟩:Array ah)[0]? =some (.iface t v'):=rfl;have h1:(⟨Value.iface t v'::as'⟩:Array ah).extract 1 (⟨Value.iface t v'::as'⟩:Array ah).size=⟨as'⟩:=by apply Array.ext';simp[Sw]
      simp only[invoke,h0,h1];exact Oo t _ v' _ name as' hm
   .cases ht
  .cases ht
 |methodOf t name=>
  rw[Gu]at ht hf;simp only at ht;cases hf;split at ht
  .rename_i x as Oq;rw[Oq]at ha;cases ha with
   | @cons _ x' _ as' hv hl=>
     have h0:(⟨x'::as'⟩:Array ah)[0]? =some x':=rfl;have h1:(⟨x'::as'⟩:Array ah).extract 1 (⟨x'::as'⟩:Array ah).size=⟨as'⟩:=by apply Array.ext';simp[Sw]
     split at ht
     .rename_i ms hu;split at ht
      .rename_i t2 v;split at ht
       .rename_i f1 r hm;simp only[aI,cB]at ht;obtain⟨rfl,rfl⟩:=ht;obtain⟨v',hv',rfl⟩:=hv.Ca;obtain⟨rfl,_⟩:=Jv hm;refine⟨v'::as',?_,.cons hv' hl⟩;simp only[invoke,h0,h1,dm,fE hu,dB];exact Oo t2 _ v' _ name as' hm
       .cases ht
      .cases ht
     .rename_i d hni hu;split at ht
      .rename_i f1 r hm;simp only[aI,cB]at ht;obtain⟨rfl,rfl⟩:=ht;obtain⟨rfl,_⟩:=Jv hm;refine⟨x'::as',?_,.cons hv hl⟩;simp only[invoke,h0,h1,dm,fE hu,dB];exact Oo t _ x' _ name as' hm
      .cases ht
     .cases ht
  .cases ht
 |via t p f0 b=>rw[Gu]at ht;cases ht
 |yield l=>rw[Gu]at ht;cases ht
end Go.Ideal
namespace Go.Ideal
variable {P:Program}
def aeW(v:ah)(l:ae ah)(i:Nat)(t:T ah):yB (v::l) i t=yB l (i+1) (t.set i (some v)):=rfl
def UD:∀(l:ae ah) (i:Nat) (t:T ah) (j:Nat),dD (yB l i t) j=if i<=j/\j<i+l.length then l.getD (j - i) dH else dD t j:=by
 intro l;induction l with
 |nil=>intro i t j;rw[if_neg qe];rfl
 |cons v l ih=>
  intro i t j;rw[aeW,ih,DD];by_cases h:i+1<=j/\j<i+1+l.length
  .rw[if_pos h,if_pos qu];have:j - i=(j - (i+1))+1:=by omega
   rw[this];rfl
  .rw[if_neg h];by_cases e:j=i
   .subst e;rw[if_pos rfl,if_pos qe];simp
   .rw[if_neg e,if_neg qu]
def UE(a b:Nat):rG a b=max a b:=by
 unfold rG;cases hb:Nat.ble a b with
 |true=>have:=lg hb;show b=_;omega
 |false=>
  have:¬a<=b:=λhh=>by rw[II hh]at hb;cases hb
  show a=_;omega
def aeX{β:aD}{n:Nat}{args jf:ae ah}(h:aQ β args jf)(pm:aj FrameMode):AR β none' (BP n args pm) ((⟨jf⟩:Array ah)++Array.replicate (n - jf.length) undef) []:=by
 have hlen:=h.length;refine⟨?_,λi _=>?_,λi hi=>?_,.nil⟩
 .show _=rG n (iI args);rw[UE,vO];simp;omega
 .show VR β (dD (yB args 0 .leaf) i) _;rw[UD];by_cases hi:i<args.length
  .rw[if_pos ⟨p0,p0⟩];obtain⟨v',h1,h2⟩:=h.get (bH hi);have e1:args.getD (i - 0) dH=args[i]:=by simp[hi]
   rw[e1,uk,acj qu];have:(⟨jf⟩:Array ah)[i]? =some v':=r6
   rw[this];exact h2
  .rw[if_neg p0];exact .dH _
 .show dD (yB args 0 .leaf) i=dH;have:rG n (iI args)<=i:=hi;rw[UE,vO]at this;rw[UD,if_neg p0];rfl
def aeY{q:aX}{h:IH}{K:KR}(f:eD)(args:ae ah)(ht:target P q=some (f,args))(fn:Func)(hf:P.funcs[f]? =some fn)(cf:gK)(hcf:vJ P fn=some cf)(M:KO)(h1:l5 P cf.body (BP cf.ntmps args q.pm) h M)
 (h2:∀o a' h',M o a' h'->vK o≠none) (h3:∀o a' h' m,M o a' h'->vK o=some m->yJ P cf a'.tmps a'.defers m h' λr h''=>K r a'.pm h''):kI P q h K:=by
 intro β w fn' args' cap' hG hW hfr ha hcap;have aeZ:=hcf;unfold vJ at hcf;split at hcf
 .rename_i body rs hb hrs;split at hcf
  .cases hcf
  rename_i hname;simp only[aI]at hcf;subst hcf;obtain⟨jf,t1,t2⟩:=Al ht hfr ha hcap hf hb hname w;refine⟨_,Frame.enter P f ⟨jf⟩ (kindOf q.pm),t1,rfl,λcs0 uF=>?_⟩;let b:Frame:={(default:Frame)with fn:=f,kind:=kindOf q.pm}
  have hent:Frame.enter P f ⟨jf⟩ (kindOf q.pm)=fr b ((⟨jf⟩:Array ah)++Array.replicate (fn.ntmps - jf.length) undef) [] [.code body]:=by
   simp[Frame.enter,fr,hf,hb,b];rfl
  have hcx:CX P β q.pm none b cs0:=⟨⟨fn,hf⟩,.inl ⟨rfl,rfl⟩,rfl,uF⟩
  obtain⟨o,a',h',β',w',tm',fV,cs',q1,q2,q3,q4,q5,q6,q7⟩:=h1 body _ rfl (.inl rfl) β w b _ [] [] cs0 hG hW (aeX t2 q.pm) hcx;rw[<- hent]at q7;have hle:=q3.le hW.dom;have leave:∀(m:FrameMode) (F:Frame),vK o=some m->MR β' m F.mode->F.defers=fV->F.tmps=tm'->F.fn=f->F.kind=kindOf q.pm->Steps P (lone (Frame.enter P f ⟨jf⟩ (kindOf q.pm)) cs0 w) (lone F cs' w')->
   ∃r pm' h' β' w' r' cs1,K r pm' h'/\WR P β' h' w'/\Eff β h w β' h' w'/\RR β' r r'/\oI β' q.pm pm' cs0 cs1/\
   ((∃f1 ae0 F1,Next.enter f ⟨jf⟩=.enter f1 ae0/\Steps P (lone (Frame.enter P f ⟨jf⟩ (kindOf q.pm)) cs0 w) (lone F1 cs1 w')/\F1.fn=f1/\F1.kind=kindOf q.pm/\F1.going P w' r')\/
    ((q.pm=none/\∃l,q.fn=.yield l)/\∀c rest,cs1=c::rest->Steps P (lone (Frame.enter P f ⟨jf⟩ (kindOf q.pm)) cs0 w) (lone (recv c r') rest w'))):=by
   intro m F hm hmr hdf htm hfn hkd hst;obtain⟨r,h2',β2,w2,F1,r',p1,p2,p3,p4,p5,p6,p7,p8⟩:=h3 o a' h' m q1 hm β' w' F cs' fn (hG.le hle) q2 hmr (by rw[hdf];exact q4.defers) (λi=>by rw[htm];exact q4.tmps i λhh=>hh) (by rw[hfn];exact hf) aeZ;exact⟨r,a'.pm,h2',β2,w2,r',cs',p1,p2,q3.trans p3,p4,q5.mono (p3.le q2.dom),.inl ⟨f,⟨jf⟩,F1,rfl,hst.trans p5,by rw[p7,hfn],by rw[p6,hkd],p8⟩⟩
  cases o with
  |normal=>exact leave .returning {fr b tm' fV []with mode:=.returning} rfl .returning rfl rfl rfl rfl (Steps.trans q7 (.one (adJ rfl)))
  |exit id=>exact absurd rfl (h2 _ _ _ q1)
  |ret=>
   obtain⟨todo,e2⟩:=q7;exact leave .returning {fr b tm' fV (.code .ret::todo)with mode:=.returning} rfl .returning rfl rfl rfl rfl (Steps.trans e2 (.one (adI rfl)))
  |panic ch=>
   obtain⟨todo,ch',e1,e2⟩:=q7;exact leave (.panicking ch) {fr b tm' fV todo with mode:=.panicking ch'} rfl (.panicking e1) rfl rfl rfl rfl e2
 .cases hcf
end Go.Ideal
namespace Go.Ideal
variable {P:Program}
mutual
def VR.restrict{β β':aD}(hle:β.le β'):∀{v v0 v':ah},VR β v v0->VR β' v v'->VR β v v'
 |_,_,_,.dH _,_=>.dH _
 |_,_,_,.skip,k=>by cases k;exact .skip
 |_,_,_,.bool _,k=>by cases k;exact .bool _
 |_,_,_,.int _ _,k=>by cases k;exact .int _ _
 |_,_,_,.float _ _,k=>by cases k;exact .float _ _
 |_,_,_,.complex _ _ _,k=>by cases k;exact .complex _ _ _
 |_,_,_,.string _,k=>by cases k;exact .string _
 |_,_,_,.nilFunc,k=>by cases k;exact .nilFunc
 |_,_,_,.nilIface,k=>by cases k;exact .nilIface
 |_,_,_,.Ac,k=>by cases k;exact .Ac
 |_,_,_,.ptr hi,k=>by
  obtain⟨g,h1,rfl⟩:=k.vT;rw[hle _ _ hi]at h1;cases h1;exact .ptr hi
 |_,_,_,.sl0 _ _,k=>by cases k;exact .sl0 _ _
 |_,_,_,.az hi hb hn ha,k=>by
  obtain⟨g,a,c',q1,rfl,q3,q4,q5,q6,q7,q8⟩:=k.mD;rw[hle _ _ hi]at q1;cases q1;rcases q8 with⟨_,rfl⟩|⟨q8,r1,_,_⟩
  .exact .az hi q3 q5 q7
  .simp only[aI]at q8;omega
 |_,_,_,.nU hi hb hs hn hz hl ht hc ha,k=>by
  obtain⟨g,a,c',q1,rfl,q3,q4,q5,q6,q7,q8⟩:=k.mD;rw[hle _ _ hi]at q1;cases q1;rcases q8 with⟨q8,_⟩|⟨_,_,r2,r3,r4⟩
  .simp only[aI]at q8;omega
  .exact .nU hi q3 r4 q5 hz r2 r3 q6 (q7.imp id (·.1))
 |_,_,_,.yF,k=>by cases k;exact .yF
 |_,_,_,.map hi,k=>by
  obtain⟨g,h1,rfl⟩:=k.DR;rw[hle _ _ hi]at h1;cases h1;exact .map hi
 |_,_,_,.func hf h1 h2,k=>by
  obtain⟨fn',f',c',k1,k2,k3,rfl⟩:=k.Af;refine .func ?_ (aQ.restrict hle h1 k2) (aQ.restrict hle h2 k3);cases hf with
  |func f=>cases k1;exact .func f
  |method n=>cases k1;exact .method n
  |methodOf t n=>cases k1;exact .methodOf t n
  |yield hl=>cases k1 with|yield hl'=>rw[hle _ _ hl]at hl';cases hl';exact .yield hl
 |_,_,_,.iface t hv,k=>by
  obtain⟨u',k1,rfl⟩:=k.Ca;exact .iface t (VR.restrict hle hv k1)
 |_,_,_,.agg hc hl,k=>by
  obtain⟨l',k1,_,rfl⟩:=k.NB;exact .agg hc (aQ.restrict hle hl k1)
 |_,_,_,.tuple hl,k=>by
  cases k with
  |dH=>cases hl;exact .dH _
  |tuple k1=>exact .tuple (aQ.restrict hle hl k1)
def aQ.restrict{β β':aD}(hle:β.le β'):∀{v v0 v':ae ah},aQ β v v0->aQ β' v v'->aQ β v v'
 |_,_,_,.nil,k=>by cases k;exact .nil
 |_,_,_,.cons hv hl,k=>by
  cases k with
  |cons k1 k2=>exact .cons (VR.restrict hle hv k1) (aQ.restrict hle hl k2)
end
def fP.restrict{β β':aD}(hle:β.le β'){l l0 l':ae MapEntry}(h:fP β l l0)(k:fP β' l l'):fP β l l':=by
 induction h generalizing l' with
 |nil=>cases k;exact .nil
 |cons hk hf hb hv hl ih=>
  cases k with
  |cons hk' hf' hb' hv' hl'=>exact .cons hk' hf' hb' (hv.restrict hle hv') (ih hl')
def OR.restrict{β β':aD}(hle:β.le β'){g:iC}{w w':World}{o:bG}(h:OR P β g w o)(k:OR P β' g w' o):OR P β g w' o:=by
 cases o with
 |cells cs=>
  obtain⟨_,_,_,_,_,a7⟩:=h;obtain⟨b1,b2,b3,b5,b6,b7⟩:=k;refine⟨b1,b2,b3,b5,b6,λj v hj=>?_⟩;exact iv
 |jq cs=>
  obtain⟨_,_,_,a7⟩:=h;obtain⟨b1,b2,b6,b7⟩:=k;refine⟨b1,b2,b6,λj v hj=>?_⟩;exact iv
 |map es clock=>
  obtain⟨es0,_,h0⟩:=h;obtain⟨es',h1,h2⟩:=k;exact⟨es',h1,h0.restrict hle h2⟩
 |BI s pos=>exact k
 |mapIter m since seen stepped=>
  obtain⟨m0,s0,_,_,h0,_⟩:=h;obtain⟨m',s',h1,h2,h3,h4⟩:=k;exact⟨m',s',h1,h2,h0.restrict hle h3,h4⟩
 |loop r=>
  obtain⟨r0,_,h0⟩:=h;obtain⟨r',h1,h2⟩:=k;obtain⟨g0,e1,_⟩:=h0.defers;obtain⟨g1,e2,e3⟩:=h2.defers;rw[hle _ _ e1]at e2;cases e2;exact⟨r',h1,⟨h2.state,h2.pending,h2.FV,h2.size,λi=>(h0.tmps i).restrict hle (h2.tmps i),h2.out,h2.params,h2.assign,h2.body,⟨_,e1,e3⟩,h2.DI⟩⟩
 |iU b=>exact k
def WR.low{β:aD}{h:IH}{w:World}(hW:WR P β h w)(n:Nat):WR P β {h with low:=n} w:=⟨hW.dom,hW.live,hW.obj,hW.inj⟩
def ae2{q:aX}{h:IH}{K:KR}(cs:ae ah)(n f:Nat)(hcs:gD cs=true)(hne:cs≠[])(hf:f=0\/cs.length=n*f)(M:KR)(hc:kI P q {h with low:=h.next} M)(hq:q.pm=none)
 (h1:∀r pm h',M r pm h'->pm=none/\h'.low=h.next/\∃i o c,r=.ok (.slice (some ⟨i,o,some f⟩) n c)/\h.next<=i/\(f=0->c=n)/\h'.nR i o cs.length=some cs)
 (hk:K (.ok (.slice (some ⟨h.next,0,some f⟩) n n)) none (h.new (.cells cs))):kI P q h K:=by
 intro β w fn' args' cap' hG hW hfr ha hcap;obtain⟨nx,F0,n1,n2,n3⟩:=hc β w fn' args' cap' hG (hW.low _) hfr ha hcap;refine⟨nx,F0,n1,n2,λcs0 uF=>?_⟩;obtain⟨r,pm',h',β',w',r',cs1,q1,q2,q3,q4,q5,q6⟩:=n3 cs0 uF;obtain⟨hpm,hlow,i,o,c,rfl,hi,hfc,hcells⟩:=h1 r pm' h' q1;subst hpm;cases q4 with
 | @ok v v' hv=>
   obtain⟨g,a,c',hg,hv',ha1,ha2,hn,hcc,hoff,hkind⟩:=hv.mD;obtain⟨cells,hget,htake⟩:=TC hcells;rw[pE,oH]at htake;split at htake
   .rename_i hle;simp only[aI]at htake;obtain⟨o1,o2,o3,o5,o6,o7⟩:=q2.obj i g _ hg hget;let g1:iC:=⟨g.b,g.off+o,cs.length,g.top,g.sz⟩
    let β2:aD:=λj=>if j<h.next then β j else if j=h.next then some g1 else none
    have hb2:∀j k,β2 j=some k->(j<h.next/\β j=some k/\β' j=some k)\/(j=h.next/\k=g1):=λj k hk=>by
     simp only[β2]at hk;split at hk
     .rename_i hj;exact .inl ⟨hj,hk,(q3.agree j hj).trans hk⟩
     .split at hk
      .rename_i hj;simp only[aI]at hk;exact .inr ⟨hj,hk.symm⟩
      .cases hk
    have hold:∀j,j<h.next->h'.get j=h.get j:=λj hj=>q3.kept j (by rw[hlow];exact hj) hj
    have hnew:∀j,(h.new (.cells cs)).get j=if j=h.next then some (.cells cs)else h.get j:=λj=>IH.iM _ _ _
    have hle2:β.le β2:=λj k hk=>by
     have:=hW.dom j k hk;simp only[β2];rw[if_pos this];exact hk
    have UF:∀(j:Nat) v,cs[j]? =some v->bR v=true:=λj v hj=>by
     have:∀(l:ae ah),gD l=true->∀v∈l,bR v=true:=by
      intro l;induction l with
      |nil=>intro _ v hv;simp at hv
      |cons x l ih=>
       intro hl v hv;simp[gD]at hl;rcases bN.1 hv with rfl|hv
       .exact hl.1.1
       .exact ih hl.2 v hv
     exact this cs hcs v (aV hj)
    have ae3:∀(j:Nat) v,cs[j]? =some v->w'.cell? ⟨g.b,g.off+o+j,none⟩=some v:=λj v hj=>by
     have hj2:cells[o+j]? =some v:=by
      rw[<- htake,qy]at hj;split at hj
      .rw[jR]at hj;exact hj
      .cases hj
     obtain⟨v',t1,t2⟩:=o7 (o+j) v hj2;rw[t2.pF (UF j v hj)]at t1;rw[kE];exact t1
    have hlen:o+cs.length<=cells.length:=by
     simp at hle;have h0:0<cs.length:=Dm.2 hne;omega
    have hOR:OR P β2 g1 w' (.cells cs):=⟨o1,rfl,by show g.off+o+cs.length<=g.top;omega,o5,vP hcs,λj v hj=>⟨v,ae3 j v hj,VR.free (UF j v hj)⟩⟩
    have hW2:WR P β2 (h.new (.cells cs)) w':=by
     refine⟨?_,?_,?_,?_⟩
     .intro j k hk;show j<h.next+1
      rcases hb2 j k hk with⟨hj,_⟩|⟨hj,_⟩<;>omega
     .intro j x hx;show j<h.next+1
      rw[hnew]at hx;split at hx
      .omega
      .have:=hW.live j x hx;omega
     .intro j k x hk hx;rw[hnew]at hx;rcases hb2 j k hk with⟨hj,hb,hb'⟩|⟨hj,rfl⟩
      .rw[if_neg p0]at hx;have hx':h'.get j=some x:=by rw[hold j hj];exact hx
       exact((hW.obj j k x hb hx).restrict (q3.le hW.dom) (q2.obj j k x hb' hx')).mono hle2
      .rw[if_pos hj]at hx;simp only[aI]at hx;subst hx;exact hOR
     .intro j l k m hk hm hj hl hr he;rw[hnew]at hj hl;rcases hb2 j k hk with⟨hjn,_,hb'⟩|⟨hjn,rfl⟩
      .rw[if_neg p0]at hj;rcases hb2 l m hm with⟨hln,_,Ot⟩|⟨hln,rfl⟩
       .rw[if_neg p0]at hl;exact q2.inj j l k m hb' Ot (by rw[hold j hjn];exact hj) (by rw[hold l hln];exact hl) (hr.imp (λq cs e=>q cs (by rw[hnew,if_neg p0,<- hold j hjn];exact e)) (λq cs e=>q cs (by rw[hnew,if_neg p0,<- hold l hln];exact e))) he
       .have:=q2.inj j i k g hb' hg (by rw[hold j hjn];exact hj) vi (.inr x7) he;omega
      .rcases hb2 l m hm with⟨hln,_,Ot⟩|⟨hln,rfl⟩
       .rw[if_neg p0]at hl;have:=q2.inj l i m g Ot hg (by rw[hold l hln];exact hl) vi (.inr x7) he.symm;omega
       .omega
    have UG:β2 h.next=some g1:=by simp only[β2];rw[if_neg p0];simp
    have hE:Eff β h w β2 (h.new (.cells cs)) w':=
     {agree:=λj hj=>by simp only[β2];rw[if_pos hj]
      next:=zI _
      alive:=λj hj hn=>by rw[hnew,if_neg p0]at hn;exact hn
      hid:=λj hj _=>by rw[hnew,if_neg p0]
      low:=bz _
      kept:=λj _ hj=>by rw[hnew,if_neg p0]
      os:=q3.os,tape:=q3.tape,output:=q3.output,drawn:=q3.drawn,size:=q3.size,keep:=q3.keep
      sU:=λj k _ hj hk hn hb=>q3.sU j k (by rw[hlow];exact hj) hj hk hn hb
      fresh:=λj k hk hj=>by
       rcases hb2 j k hk with⟨hjn,_⟩|⟨_,rfl⟩
       .omega
       .exact q3.fresh i g hg hi}
    have hVR:VR β2 (.slice (some ⟨h.next,0,some f⟩) n n) v':=by
     subst hv';rcases hkind with⟨e1,e2⟩|⟨e1,e2,e3,e4,e5⟩
     .simp only[aI]at e1;have:=hfc e1;subst e1 e2 this;exact .az UG ha1 (bz _) (by
       rcases hoff with hh|⟨hh,hs⟩
       .exact .inl hh
       .exact .inr ⟨by rw[hh];rfl,hs⟩)
     .simp only[aI]at e1;subst e1;have hcl:cs.length=n*g.sz:=hf.resolve_left p0;exact .nU (g:=g1) UG ha1 e5 (bz _) e2 (by show 0+n*g.sz=cs.length;omega) (by show g.off+o+0+c'*g.sz=g.top;omega) (mh hn hcc) (by
       rcases hoff with hh|⟨hh,_⟩
       .exact .inl hh
       .exact .inr (by rw[hh];rfl))
    exact⟨_,none,_,β2,w',.returned v',cs1,hk,hW2,hE,.ok hVR,by rw[hq]at q5⊢;cases q5;exact .none _,by
     exact pP⟩
   .cases htake
end Go.Ideal
namespace Go.Ideal
variable {P:Program}
def ae6(n p:Nat)(ps:ae Tmp)(v:ah)(args:ae ah)(t:T ah):vM n (p::ps) (v::args) t=vM n ps args (cond (Nat.blt p n) (t.set p (some v)) t):=rfl
def ae7{β:aD}{n:Nat}:∀(ps:ae Tmp) (args jf:ae ah) (t:T ah) (tm:Array ah),args.length=ps.length->aQ β args jf->tm.size=n->(∀i,VR β (dD t i) (tm.getD i undef))->(∀i,n<=i->dD t i=dH)->
 (((ps.zip jf).foldl (λtmps (x:Tmp×ah)=>tmps.setIfInBounds x.1 x.2) tm).size=n/\(∀i,VR β (dD (vM n ps args t) i) (((ps.zip jf).foldl (λtmps (x:Tmp×ah)=>tmps.setIfInBounds x.1 x.2) tm).getD i undef))/\∀i,n<=i->dD (vM n ps args t) i=dH):=by
 intro ps;induction ps with
 |nil=>
  intro args jf t tm hl ha hs hv ho;cases args with
  |nil=>cases ha;exact⟨hs,hv,ho⟩
  |cons v args=>simp at hl
 |cons p ps ih=>
  intro args jf t tm hl ha hs hv ho;cases args with
  |nil=>simp at hl
  |cons v args=>
   cases ha with
   | @cons _ v' _ jf h1 h2=>
     rw[ae6];simp only[List.zip_cons_cons,p9];refine ih args jf _ (tm.setIfInBounds p v') (by simpa using hl) h2 (by simpa using hs) (λi=>?_) (λi hi=>?_)
     .cases hb:Nat.blt p n with
      |true=>
       have hlt: @LT.lt Nat _ p n:=r7
       simp only[cond_true];rw[DD,Jn tm p v' i p0];by_cases e:i=p
       .rw[if_pos e,if_pos e];exact h1
       .rw[if_neg e,if_neg e];exact hv i
      |false=>
       have hge:n<=p:=by
        rcases sM p n with hh|hh
        .have:Nat.blt p n=true:=by simpa[uj]using hh
         rw[this]at hb;cases hb
        .exact hh
       simp only[cond_false];by_cases e:i=p
       .rw[ho i p0];exact .dH _
       .rw[uk,IK (Ne.symm e),<- uk];exact hv i
     .cases hb:Nat.blt p n with
      |true=>
       have hlt: @LT.lt Nat _ p n:=r7
       simp only[cond_true];rw[DD,if_neg p0];exact ho i hi
      |false=>exact ho i hi
section
variable {b:Frame} {tm:Array ah} {df:ae Deferred} {k:ae Item} {cs:ae Frame} {w:World}
variable{l:Nat}{r:Loop}
def ae8(hb:b.roundOf=some l)(h:w.heap[l]? =some (.loop r))(hr:r.state=.ready):
 step P (lone (fr b tm df (.beginRound::k)) cs w)=.next (lone (fr b tm df k) cs (w.putObj l (.loop {r with state:=.busy}))):=by
 have h1:=run_beginRound (P:=P) h hr;refine step_lone_go ?_;simp[stepG,stepG.exec,fr,hb,stepG.apply,h1,Frame.finish]
def ae9{todo:ae Item}(hb:b.roundOf=some l)(hk:b.kind=.normal)(h:w.heap[l]? =some (.loop r))(jump:aj Code)
 (ht:(todo=[]/\jump=none)\/(∃t,todo=.code .ret::t/\jump=some .ret)\/∃id t,todo=.code (.exit id)::t/\exitTo id t=none/\jump=some (.exit id)) (c:Frame):
 step P (lone (fr b tm df todo) (c::cs) w)=.next (lone (c.finish (.bool jump.isNone)) cs (w.putObj l (.loop {r with state:=if jump.isNone then .ready else .done,pending:=jump}))):=by
 have h1:=run_endRound (P:=P) jump h;refine step_lone_go ?_;rcases ht with⟨rfl,rfl⟩|⟨t,rfl,rfl⟩|⟨id,t,rfl,he,rfl⟩
 .simp[stepG,stepG.exec,fr,hb,h1,doReturn,hk]
 .simp[stepG,stepG.exec,fr,hb,h1,doReturn,hk]
 .simp[stepG,stepG.exec,fr,hb,h1,doReturn,hk,he]
end
end Go.Ideal
namespace Go.Ideal
variable {P:Program}
def Ou{w:World}{l:Nat}{o:Obj}(hl:l<w.heap.size):(w.putObj l o).heap.size=w.heap.size/\(∀b,b≠l->(w.putObj l o).heap[b]? =w.heap[b]?)/\(w.putObj l o).heap[l]? =some o:=Gb hl
def afa{q:aX}{h:IH}{K:KR}(l:Nat)(hq:q.fn=.yield l)(hpm:q.pm=none)(r:oC)(hr:h.get l=some (.loop r))(hargs:q.args.length=r.params.length)
 (M:KO) (h1:l5 P r.assign {n:=r.n,tmps:=vM r.n r.params q.args r.tmps,defers:=[],pm:=none,ro:=some l} h M)
 (h2:∀o a' h',M o a' h'->o=.normal/\∃r1,h'.get l=some (.loop r1)/\r1.state=.ready)
 (h3:∀a' h' r1,M .normal a' h'->h'.get l=some (.loop r1)->l5 P r.body a' (h'.set l (.loop {r1 with state:=.busy})) λo a'' h''=>∃r2,h''.get l=some (.loop r2)/\a''.defers=[]/\
   match o with
   | .panic ch=>K (.fD ch) none h''
   | .normal=>K (.ok (.bool true)) none (h''.set l (.loop {r2 with state:=.ready,pending:=none}))
   |o=>K (.ok (.bool false)) none (h''.set l (.loop {r2 with state:=.done,pending:=some o}))):kI P q h K:=by
 intro β w fn' args' cap' hG hW hfr ha hcap;rw[hq]at hfr;cases hfr with
 | @yield _ g hg=>
 obtain⟨r',o1,L⟩:=hW.obj l g _ hg hr;have hsz:(⟨args'⟩:Array ah).size=r'.params.size:=by
  have e1:args'.length=q.args.length:=ha.length;have e2:r'.params.size=r.params.length:=by rw[<- L.params];simp
  show args'.length=_;omega
 refine⟨_,_,by
  show(Instr.yield g.b ⟨args'⟩).run P w=_;exact run_yield o1 hsz,rfl,λcs0 _=>?_⟩
 rw[hpm];have Jh:(r'.params.zip (⟨args'⟩:Array ah)).foldl (λtmps (x:Tmp×ah)=>tmps.setIfInBounds x.1 x.2) r'.tmps=(r.params.zip args').foldl (λtmps (x:Tmp×ah)=>tmps.setIfInBounds x.1 x.2) r'.tmps:=by
  rw[<- Sv,Array.toList_zip,L.params]
 obtain⟨t1,t2,t3⟩:=ae7 (β:=β) (n:=r.n) r.params q.args args' r.tmps r'.tmps hargs ha L.size L.tmps L.out;rw[<- Jh]at t1 t2;let b:Frame:={(default:Frame)with fn:=r'.fn,kind:=.normal,roundOf:=some g.b}
 have hcx:CX P β none (some l) b cs0:=⟨L.DI,.inr ⟨l,g,rfl,hg,rfl⟩,rfl,λm hm=>by cases hm⟩
 have hA:AR β none' {n:=r.n,tmps:=vM r.n r.params q.args r.tmps,defers:=[],pm:=none,ro:=some l} ((r'.params.zip (⟨args'⟩:Array ah)).foldl (λtmps (x:Tmp×ah)=>tmps.setIfInBounds x.1 x.2) r'.tmps) []:=
  ⟨t1,λi _=>t2 i,t3,.nil⟩
 obtain⟨o,a',h',β',w',tm',fV,cs',q1,q2,q3,q4,q5,q6,q7⟩:=h1 r'.assign _ L.assign (.inl rfl) β w b _ [] [.beginRound,.code r'.body] cs0 hG hW hA hcx;obtain⟨rfl,r1,hr1,hst⟩:=h2 o a' h' q1;have hle:=q3.le hW.dom;have hg':=hle _ _ hg;obtain⟨r1',o2,L1⟩:=q2.obj l g _ hg' hr1;have hlt1:g.b<w'.heap.size:=by
  rcases sM g.b w'.heap.size with hh|hh
  .exact hh
  .rw[sN hh]at o2;cases o2
 obtain⟨z1,z2,z3⟩:=Ou (w:=w') (o:=.loop {r1' with state:=.busy}) hlt1;obtain⟨y1,y2⟩:=q2.write hg' hr1 (.loop {r1 with state:=.busy}) z1 z2 rfl rfl rfl (bz _) ⟨_,z3,{L1 with state:=rfl}⟩;have Ov:a'.pm=none:=by
  have h5:=q5;generalize a'.pm=x at h5;cases h5;rfl
 have s1:Steps P (lone (Frame.round g.b r'.fn ((r'.params.zip (⟨args'⟩:Array ah)).foldl (λtmps (x:Tmp×ah)=>tmps.setIfInBounds x.1 x.2) r'.tmps) r'.assign r'.body .normal) cs0 w) (lone (fr b tm' fV [.code r'.body]) cs' (w'.putObj g.b (.loop {r1' with state:=.busy}))):=by
  refine Steps.trans q7 (.one (ae8 rfl o2 (by rw[L1.state];exact hst)))
 have hcs':cs'=cs0:=by
  have h5:=q5;rw[Ov]at h5;cases h5;rfl
 subst hcs';have afb:CX P β' a'.pm a'.ro b cs':=by
  rw[Ov,q6];exact⟨L.DI,.inr ⟨l,g,rfl,hg',rfl⟩,rfl,λm hm=>by cases hm⟩
 obtain⟨UH,a2,h4,β2,w2,UI,df2,cs2,p1,p2,p3,p4,p5,p6,p7⟩:=h3 a' h' r1 q1 hr1 r'.body _ L.body (.inl rfl) β' _ b tm' fV [] cs' (hG.le hle) y1 q4 afb;obtain⟨r2,hr2,hdf,hK⟩:=p1;have hle2:=p3.le y1.dom;have hg2:=hle2 _ _ hg';have hcs2:cs2=cs'/\a2.pm=none:=by
  have h5:=p5;rw[Ov]at h5;generalize a2.pm=x at h5;cases h5;exact⟨rfl,rfl⟩
 obtain⟨rfl,aq8⟩:=hcs2;obtain⟨r2',o3,L2⟩:=p2.obj l g _ hg2 hr2;have hlt2:g.b<w2.heap.size:=by
  rcases sM g.b w2.heap.size with hh|hh
  .exact hh
  .rw[sN hh]at o3;cases o3
 have afc:df2=[]:=by
  have h5:=p4.defers;rw[hdf]at h5;cases h5;rfl
 have hE:Eff β h w β2 h4 w2:=(q3.trans y2).trans p3;by_cases jv:∃ch,UH=.panic ch
 .obtain⟨ch,rfl⟩:=jv;obtain⟨todo,ch',e1,e2⟩:=p7;refine⟨.fD ch,none,h4,β2,w2,.panicked ch',cs2,hK,p2,hE,.fD e1,.none _,.inr ⟨⟨rfl,l,hq⟩,λc rest hc=>?_⟩⟩;subst hc;refine(s1.trans e2).trans (.one ?_);obtain⟨fn,hfn⟩:=L.DI;subst afc;exact step_leave_panicked ⟨rfl,rfl,fn,hfn⟩
 .have key:∃(jump:aj Code) (out:aj Out) (todo:ae Item),jump=out.bind Ty/\(∀ch,out≠some (.panic ch))/\jump.isNone=out.isNone/\
   ((todo=[]/\jump=none)\/(∃t,todo=.code .ret::t/\jump=some .ret)\/∃id t,todo=.code (.exit id)::t/\exitTo id t=none/\jump=some (.exit id))/\
   Steps P (lone (fr b tm' fV [.code r'.body]) cs2 (w'.putObj g.b (.loop {r1' with state:=.busy}))) (lone (fr b UI df2 todo) cs2 w2)/\
   K (.ok (.bool out.isNone)) none (h4.set l (.loop {r2 with state:=if out.isNone then .ready else .done,pending:=out})):=by
   cases UH with
   |panic ch=>exact absurd ⟨ch,rfl⟩ jv
   |normal=>exact⟨none,none,[],rfl,qe,rfl,.inl ⟨rfl,rfl⟩,p7,hK⟩
   |exit id=>
    obtain⟨todo,e1,e2⟩:=p7;exact⟨some (.exit id),some (.exit id),_,rfl,qe,rfl,.inr (.inr ⟨id,todo,rfl,e1,rfl⟩),e2,hK⟩
   |ret=>
    obtain⟨todo,e2⟩:=p7;exact⟨some .ret,some .ret,_,rfl,qe,rfl,.inr (.inl ⟨todo,rfl,rfl⟩),e2,hK⟩
  obtain⟨jump,out,todo,k1,k2,k3,k4,k5,k6⟩:=key;obtain⟨x1,x2,x3⟩:=Ou (w:=w2) (o:=.loop {r2' with state:=if jump.isNone then .ready else .done,pending:=jump}) hlt2;obtain⟨u1,u2⟩:=p2.write hg2 hr2 (.loop {r2 with state:=if out.isNone then .ready else .done,pending:=out}) x1 x2 rfl rfl rfl (bz _) ⟨_,x3,{L2 with state:=by rw[k3],pending:=k1,FV:=k2}⟩;refine⟨_,none,_,β2,_,.returned (.bool out.isNone),cs2,k6,u1,hE.trans u2,.ok (.bool _),.none _,.inr ⟨⟨rfl,l,hq⟩,λc rest hc=>?_⟩⟩;subst hc;refine(s1.trans k5).trans (.one ?_);have:=ae9 (P:=P) (tm:=UI) (df:=df2) (cs:=rest) (b:=b) rfl rfl o3 jump k4 c;rw[k3]at this;rw[k3];exact this
end Go.Ideal
namespace Go.Ideal
variable {P:Program}
section
variable {b:Frame} {tm:Array ah} {df:ae Deferred} {k:ae Item} {cs:ae Frame} {w:World}
variable{l:Nat}
def afd{f:ak}{ps:Array Tmp}{x y:Code}{mark:ae Deferred}{w1:World}(he:(Instr.enterLoop b.fn tm ps x y b.roundOf).run P w=.ok (l,mark) w1){fn:Fn}{first captured:Array ah}
 (hf:Act.eval ⟨tm,df⟩ f=.func fn first captured) {nx:Next} {F0:Frame} (hi:(invoke (.fn fn captured) (first++ #[.func (.yield l) #[] #[]])).run P w1=.ok nx w1) (hn:entry P .normal nx=some F0):
 step P (lone (fr b tm df (.code (.rangeFunc f ps x y)::k)) cs w)=.next (lone F0 (fr b tm (mark++df) (.inRangeFunc l::k)::cs) w1):=by
 refine step_lone_go ?_;have hev:({fr b tm df (.code (.rangeFunc f ps x y)::k)with todo:=.inRangeFunc l::k,defers:=mark++df}:Frame).eval f=.func fn first captured:=by
  rw[<- hf];cases f<;>rfl
 have hcall:(do let d <- resolve ({fr b tm df (.code (.rangeFunc f ps x y)::k)with todo:=.inRangeFunc l::k,defers:=mark++df}:Frame).eval {callee:=.value f,args:= #[.const (.func (.yield l) #[] #[])],argTypes:= #[]} 0;invoke d.target d.args:Sem Next).run P w1=.ok nx w1:=by
  have hc:({fr b tm df (.code (.rangeFunc f ps x y)::k)with todo:=.inRangeFunc l::k,defers:=mark++df}:Frame).eval (.const (.func (.yield l) #[] #[]))=.func (.yield l) #[] #[]:=rfl;simp only[resolve,hev,Deferred.ofValue,dm,ed,dB];have:(#[Operand.const (.func (.yield l) #[] #[])].map ({fr b tm df (.code (.rangeFunc f ps x y)::k)with todo:=.inRangeFunc l::k,defers:=mark++df}:Frame).eval)= #[.func (.yield l) #[] #[]]:=by simp[hc]
  rw[this];exact hi
 have hfr:({fr b tm df (.code (.rangeFunc f ps x y)::k)with todo:=.inRangeFunc l::k,defers:=mark++df}:Frame)=fr b tm (mark++df) (.inRangeFunc l::k):=rfl;rw[hfr]at hcall;have he':(Instr.enterLoop (fr b tm df (.code (.rangeFunc f ps x y)::k)).fn (fr b tm df (.code (.rangeFunc f ps x y)::k)).tmps ps x y (fr b tm df (.code (.rangeFunc f ps x y)::k)).roundOf).run P w=.ok (l,mark) w1:=he;cases nx<;>simp only[entry,aI,reduceCtorEq]at hn
 .exact lO
 .exact lO
def afe{r:Loop}(h:w.heap[l]? =some (.loop r))(hb:r.state≠.busy):
 step P (lone (fr b tm df (.endRangeFunc l::k)) cs w)=.next (lone (fr b tm df ((r.pending.map Item.code).toList++k)) cs (w.putObj l (.loop {r with state:=.exhausted}))):=by
 have h1:=run_endLoop (P:=P) h hb;refine step_lone_go ?_;simp[stepG,stepG.exec,fr,h1]
end
end Go.Ideal
namespace Go.Ideal
variable {P:Program}
variable{a:aU}{f:ak}
def UJ{h:IH}{K:KO}{ps:ae Tmp}{assign body:cK}(fn:Fn)(first captured:ae ah)(hf:a.eval f=.func fn ⟨first⟩ ⟨captured⟩)(a1:aU)(h1:IH)(r:Nat)(M:KR)
 (ha1:a1.tmps=a.tmps/\a1.n=a.n/\a1.pm=a.pm/\a1.ro=a.ro)
 (hc:kI P ⟨fn,kF first [.func (.yield h1.next) #[] #[]],captured,none⟩ (h1.new (.loop {state:=.ready,pending:=none,tmps:=a.tmps,n:=a.n,params:=ps,assign,body,defers:=r})) M)
 (hok:∀v pm h2,M (.ok v) pm h2->∃lp,h2.get h1.next=some (.loop lp)/\lp.state≠.busy/\K (lp.pending.getD .normal) a1 (h2.set h1.next (.loop {lp with state:=.exhausted})))
 (jv:∀ch pm h2,M (.fD ch) pm h2->K (.panic ch) a1 h2)
 {params:Array Tmp} {x y:Code} (hps:params.toList=ps) (hx:compile P x=assign) (hy:compile P y=body) (vW:BM P f=true)
 {β:aD} {w:World} {b:Frame} {tm:Array ah} {df:ae Deferred} {k:ae Item} {cs:ae Frame} (hG:GOK P β) (hW:WR P β h w) (hA:AR β none' a tm df) (hcx:CX P β a.pm a.ro b cs)
 {β1:aD} {w1:World} {rQ mark:ae Deferred} {gr:iC} (hW1:WR P β1 h1 w1) (hE1:Eff β h w β1 h1 w1) (hdf:rQ=mark++df) (hdr:uA β1 a1.defers rQ) (hgr:β1 r=some gr)
 (hent:(Instr.enterLoop b.fn tm params x y b.roundOf).run P w=.ok (w1.heap.size,mark) (w1.alloc (.loop {state:=.ready,pending:=none,fn:=b.fn,tmps:=tm,params,assign:=x,body:=y,defers:=gr.b}))):
 Post P β h w a.pm a.ro b cs k K (lone (fr b tm df (.code (.rangeFunc f params x y)::k)) cs w):=by
 obtain⟨e1,e2,e3,e4⟩:=ha1;have hle1:=hE1.le hW.dom;let g:iC:=⟨w1.heap.size,0,0,0,0⟩
 let Ow:Loop:={state:=.ready,pending:=none,fn:=b.fn,tmps:=tm,params,assign:=x,body:=y,defers:=gr.b}
 have hle2:β1.le (β1.add h1.next g):=aD.vQ g hW1.xk;have hLR:LR P (β1.add h1.next g) {state:=.ready,pending:=none,tmps:=a.tmps,n:=a.n,params:=ps,assign,body,defers:=r} Ow:=
  {state:=rfl,pending:=rfl,FV:=qe,size:=hA.size,tmps:=λi=>((hA.tmps i λhh=>hh).mono hle1).mono hle2,out:=hA.out,params:=hps,assign:=hx,body:=hy,defers:=⟨gr,hle2 _ _ hgr,rfl⟩,DI:=hcx.fn}
 obtain⟨hW2,hE2⟩:=hW1.alloc (.loop {state:=.ready,pending:=none,tmps:=a.tmps,n:=a.n,params:=ps,assign,body,defers:=r}) (.loop Ow) g rfl rfl ⟨Ow,by simp[g],hLR⟩;have yK:=hA.eval (fV:=df) hG vW (λ_ _ hh=>hh);rw[hf]at yK;obtain⟨fn',f',c',k1,k2,k3,k4⟩:=yK.Af;have UK:(β1.add h1.next g) h1.next=some g:=aD.aan _ _ _
 have hG2:GOK P (β1.add h1.next g):=(hG.le hle1).le hle2;obtain⟨nx,F0,n1,n2,n3⟩:=hc.call rfl hG2 hW2 ((k1.mono hle1).mono hle2) (args':=f'++[.func (.yield w1.heap.size) #[] #[]]) (by
  rw[jc];refine((k2.mono hle1).mono hle2).append (.cons ?_ .nil);exact .func (.yield UK) .nil .nil) ((k3.mono hle1).mono hle2)
 have hargs:(⟨f'⟩:Array ah)++ #[.func (.yield w1.heap.size) #[] #[]]=⟨f'++[.func (.yield w1.heap.size) #[] #[]]⟩:=sL
 have hstep:=afd (P:=P) (b:=b) (tm:=tm) (df:=df) (k:=k) (cs:=cs) hent k4 (nx:=nx) (F0:=F0) (by rw[hargs];exact n1) n2;rw[<- hdf]at hstep;obtain⟨res,h3,β3,w3,r',q1,q2,q3,q4,q5⟩:=n3 (fr b tm rQ (.inRangeFunc w1.heap.size::k)) cs;have hle3:=q3.le hW2.dom;have hA3:AR β3 none' a1 tm rQ:=by
  refine⟨by rw[e2];exact hA.size,λi hi=>?_,λi hi=>?_,(hdr.mono hle2).mono hle3⟩
  .rw[e1];exact(((hA.tmps i hi).mono hle1).mono hle2).mono hle3
  .rw[e1];exact hA.out i (by rw[<- e2];exact hi)
 have hE:Eff β h w β3 h3 w3:=(hE1.trans hE2).trans q3;have hcs:oI β3 a.pm a1.pm cs cs:=by rw[e3];exact((hcx.start.mono hle1).mono hle2).mono hle3
 cases q4 with
 | @fD ch ch' hch=>
   refine⟨.panic ch,a1,h3,β3,w3,tm,rQ,cs,jv ch none h3 q1,q2,hE,hA3,hcs,e4,.inRangeFunc w1.heap.size::k,ch',hch,.head hstep q5⟩
 | @ok v v' hv=>
   obtain⟨lp,l1,l2,l3⟩:=hok v none h3 q1;have hg3:=hle3 _ _ UK;obtain⟨xq,o1,L⟩:=q2.obj _ g _ hg3 l1;have o1:w3.heap[w1.heap.size]? =some (.loop xq):=o1;have hlt:w1.heap.size<w3.heap.size:=by
    rcases sM w1.heap.size w3.heap.size with hh|hh
    .exact hh
    .rw[sN hh]at o1;cases o1
   obtain⟨z1,z2,z3⟩:=Ou (w:=w3) (o:=.loop {xq with state:=.exhausted}) hlt;obtain⟨y1,y2⟩:=q2.write hg3 l1 (.loop {lp with state:=.exhausted}) z1 z2 rfl rfl rfl (bz _) ⟨_,z3,{L with state:=rfl}⟩;have hfin:recv (fr b tm rQ (.inRangeFunc w1.heap.size::k)) (.returned v')=fr b tm rQ (.endRangeFunc w1.heap.size::k):=rfl;rw[hfin]at q5;have s2:=afe (P:=P) (b:=b) (tm:=tm) (df:=rQ) (k:=k) (cs:=cs) o1 (by rw[L.state];exact l2);have hst:=(Steps.head hstep q5).trans (.one s2);have rR:=L.pending;cases hlp:lp.pending with
   |none=>
    have hgd:lp.pending.getD .normal=.normal:=by rw[hlp];rfl
    rw[hgd]at l3;rw[hlp]at rR;exact eI
   |some o=>
    have hgd:lp.pending.getD .normal=o:=by rw[hlp];rfl
    rw[hgd]at l3;rw[hlp]at rR;cases o with
    |normal=>
     exact eI
    |exit id=>
     have rR:xq.pending=some (.exit id):=rR;have hto:(xq.pending.map Item.code).toList++k=.code (.exit id)::k:=by rw[rR];rfl
     rw[hto]at hst;exact⟨.exit id,a1,_,β3,_,tm,rQ,cs,l3,y1,hE.trans y2,hA3,hcs,e4,k,rfl,hst⟩
    |ret=>
     have rR:xq.pending=some .ret:=rR;have hto:(xq.pending.map Item.code).toList++k=.code .ret::k:=by rw[rR];rfl
     rw[hto]at hst;exact⟨.ret,a1,_,β3,_,tm,rQ,cs,l3,y1,hE.trans y2,hA3,hcs,e4,k,hst⟩
    |panic ch=>exact absurd hlp (L.FV ch)
def afg{h:IH}{K:KO}{ps:ae Tmp}{assign body:cK}(fn:Fn)(first captured:ae ah)(hf:a.eval f=.func fn ⟨first⟩ ⟨captured⟩)(a1:aU)(h1:IH)(r:Nat)
 (hr:(a.ro=none/\a1={a with defers:={target:=.collected h.next,args:= #[]}::a.defers}/\h1=h.new (.iU true)/\r=h.next)\/(∃l0 r0,a.ro=some l0/\a1=a/\h1=h/\h.get l0=some (.loop r0)/\r=r0.defers))
 (M:KR) (hc:kI P ⟨fn,kF first [.func (.yield h1.next) #[] #[]],captured,none⟩ (h1.new (.loop {state:=.ready,pending:=none,tmps:=a.tmps,n:=a.n,params:=ps,assign,body,defers:=r})) M)
 (hok:∀v pm h2,M (.ok v) pm h2->∃lp,h2.get h1.next=some (.loop lp)/\lp.state≠.busy/\K (lp.pending.getD .normal) a1 (h2.set h1.next (.loop {lp with state:=.exhausted})))
 (jv:∀ch pm h2,M (.fD ch) pm h2->K (.panic ch) a1 h2):l5 P (.rangeFunc f ps assign body) a h K:=by
 intro code it hcode hst β w b tm df k cs hG hW hA hcx;cases code<;>simp only[compile,reduceCtorEq]at hcode
 case region id ops draw=>rcases yM hcode with⟨_,_,h1⟩|h1<;>cases h1
 case rangeFunc f' params x y=>
  split at hcode
  .rename_i vW;simp only[cK.rangeFunc.injEq]at hcode;obtain⟨rfl,hps,hx,hy⟩:=hcode;obtain rfl:=hst.code qe;rcases hr with⟨hro,rfl,rfl,rfl⟩|⟨l0,r0,hro,rfl,rfl,hl0,rfl⟩
   .have hbr:b.roundOf=none:=by
     rcases hcx.round with⟨_,h2⟩|⟨l,g,h2,_⟩
     .exact h2
     .rw[hro]at h2;cases h2
    let g:iC:=⟨w.heap.size,0,0,0,0⟩
    obtain⟨hW1,hE1⟩:=hW.alloc (.iU true) (.deferred (some [])) g rfl rfl (by show _=_;simp[g]);refine UJ fn first captured hf {a with defers:={target:=.collected h.next,args:= #[]}::a.defers} (h.new (.iU true)) h.next M ⟨rfl,rfl,rfl,rfl⟩ hc hok jv hps hx hy vW hG hW hA hcx (β1:=β.add h.next g) (rQ:={target:=.collected w.heap.size,args:= #[]}::df) (mark:=[{target:=.collected w.heap.size,args:= #[]}]) (gr:=g) hW1 hE1 rfl ?_ (aD.aan _ _ _) ?_
    .exact .coll (g:=g) (aD.aan _ _ _) (hA.defers.mono (aD.vQ g hW.xk))
    .have hs:({w with heap:=w.heap.push (.deferred (some []))}:World).heap.size=w.heap.size+1:=by show(w.heap.push _).size=_;simp
     rw[hbr,run_enterLoop_outer,hs];rfl
   .obtain⟨g0,hb1,hb2⟩:∃g0,β l0=some g0/\b.roundOf=some g0.b:=by
     rcases hcx.round with⟨h2,_⟩|⟨l,g,h2,h3,h4⟩
     .rw[hro]at h2;cases h2
     .rw[hro]at h2;simp only[aI]at h2;subst h2;exact⟨g,h3,h4⟩
    obtain⟨r0',o1,L⟩:=hW.obj l0 g0 _ hb1 hl0;obtain⟨gr,hgr,afh⟩:=L.defers;refine UJ fn first captured hf _ _ _ M ⟨rfl,rfl,rfl,rfl⟩ hc hok jv hps hx hy vW hG hW hA hcx (β1:=β) (rQ:=df) (mark:=[]) (gr:=gr) hW (Eff.refl _ _ _ hW.dom) rfl hA.defers hgr ?_
    rw[hb2];simp only[Instr.enterLoop,dm,run_getLoop o1,dB,ed,afh,run_newObj_alloc]
  .cases hcode
end Go.Ideal
namespace Go.Ideal
variable {P:Program}
def aD.cut(β:aD)(m:Nat):aD:=λi=>if i<m then β i else none
def aD.afi(β:aD)(m:Nat):(β.cut m).le β:=λi g h=>by
 simp only[aD.cut]at h;split at h
 .exact h
 .cases h
def aD.Gv{β:aD}{m i:Nat}(h:i<m):β.cut m i=β i:=by simp only[aD.cut];rw[if_pos h]
def D9{a b:Nat}(h:Nat.blt a b=true):a<b:=lg h
mutual
def VR.cut{β:aD}{m:Nat}:∀{v v':ah},VR β v v'->oF m v=true->VR (β.cut m) v v'
 |_,_,.dH v,_=>.dH v
 |_,_,.skip,_=>.skip
 |_,_,.bool b,_=>.bool b
 |_,_,.int k n,_=>.int k n
 |_,_,.float k n,_=>.float k n
 |_,_,.complex k n o,_=>.complex k n o
 |_,_,.string s,_=>.string s
 |_,_,.nilFunc,_=>.nilFunc
 |_,_,.nilIface,_=>.nilIface
 |_,_,.Ac,_=>.Ac
 |_,_,.ptr hi,hb=>.ptr Bm
 |_,_,.sl0 n c,_=>.sl0 n c
 |_,_,.az hi q1 q2 q3,hb=>.az Bm q1 q2 q3
 |_,_,.nU hi q1 q2 q3 q4 q5 q6 q7 q8,hb=>.nU Bm q1 q2 q3 q4 q5 q6 q7 q8
 |_,_,.yF,_=>.yF
 |_,_,.map hi,hb=>.map Bm
 |_,_,.func hf h1 h2,hb=>by
  simp only[oF,dG]at hb;refine .func ?_ (aQ.cut h1 hb.1.2) (aQ.cut h2 hb.2);cases hf with
  |func f=>exact .func f
  |method n=>exact .method n
  |methodOf t n=>exact .methodOf t n
  |yield hl=>simp at hb
 |_,_,.iface t hv,hb=>.iface t (VR.cut hv sk)
 |_,_,.agg hc hl,hb=>.agg hc (aQ.cut hl sk)
 |_,_,.tuple hl,hb=>.tuple (aQ.cut hl sk)
def aQ.cut{β:aD}{m:Nat}:∀{v v':ae ah},aQ β v v'->sS m v=true->aQ (β.cut m) v v'
 |_,_,.nil,_=>.nil
 |_,_,.cons hv hl,hb=>by
  simp only[sS,dG]at hb;exact .cons (VR.cut hv hb.1) (aQ.cut hl hb.2)
end
def UL{m:Nat}:∀{l:ae ah},sS m l=true->∀(j:Nat) v,l[j]? =some v->oF m v=true
 |[],_,j,v,h=>by simp at h
 |x::l,hb,0,v,h=>by simp only[sS,dG]at hb;simp at h;rw[<- h];exact hb.1
 |x::l,hb,j+1,v,h=>by simp only[sS,dG]at hb;exact UL hb.2 j v qS
def fP.cut{β:aD}{m:Nat}{l l':ae MapEntry}(he:fP β l l')(hb:∀e∈l,oF m e.val=true):fP (β.cut m) l l':=by
 induction he with
 |nil=>exact .nil
 |cons hk hf hbn hv _ ih=>exact .cons hk hf hbn (hv.cut (hb _ (dP ..))) (ih λe he=>hb e (dO _ he))
def OR.cut{β:aD}{m:Nat}{g:iC}{w:World}{o:bG}(k:OR P β g w o)(hb:FM m o=true):OR P (β.cut m) g w o:=by
 cases o with
 |cells cs=>
  obtain⟨h1,h2,h3,h5,h6,h7⟩:=k;exact⟨h1,h2,h3,h5,h6,λj v hj=>let⟨v',a,b⟩:=h7 j v hj;⟨v',a,b.cut (UL hb j v hj)⟩⟩
 |map es clock=>obtain⟨es',h1,h2⟩:=k;exact⟨es',h1,h2.cut (by simpa[FM]using hb)⟩
 |_=>cases hb
def afj{q:aX}{h:IH}{K:KR}(h0:IH)(v:ah)(hv:bR v=true)(hq:q.pm=none)(hfn:oF h0.next (.func q.fn ⟨q.args⟩ ⟨q.captured⟩)=true)
 (hgl:P.globals.size<=h0.next)
 (hsub:∀i o,h0.get i=some o->i<h0.next/\h.get i=some o/\FM h0.next o=true)
 (M:KR) (hc:kI P q h0 M) (h1:∀r pm h',M r pm h'->pm=none/\r=.ok v/\h'.low=h0.next)
 (hk:K (.ok v) none h):kI P q h K:=by
 intro β w fn' args' cap' hG hW hfr ha hcap;have hb0:∀i g,β.cut h0.next i=some g->i<h0.next/\β i=some g:=λi g hg=>by
  simp only[aD.cut]at hg;split at hg
  .rename_i hi;exact⟨hi,hg⟩
  .cases hg
 have hb1:∀i,i<h0.next->β.cut h0.next i=β i:=λi hi=>aD.Gv hi
 have hG0:GOK P (β.cut h0.next):=λg hg=>by
  obtain⟨i,h1,h2⟩:=hG g hg;exact⟨i,by rw[hb1 g (nC hg hgl)];exact h1,h2⟩
 have hlive:∀i,h0.get i≠none->h.get i≠none:=λi hi=>by
  cases e:h0.get i with
  |none=>exact absurd e hi
  |some o=>rw[(hsub i o e).2.1];simp
 have hW0:WR P (β.cut h0.next) h0 w:=by
  refine⟨λi g hg=>(hb0 i g hg).1,λi o ho=>(hsub i o ho).1,?_,?_⟩
  .intro i g o hg ho;obtain⟨_,hget,hcl⟩:=hsub i o ho;exact(hW.obj i g _ (hb0 i g hg).2 hget).cut hcl
  .intro i j g k hg hk hi hj hr he;have pass:∀x,h0.get x≠none->(∀cs,h0.get x≠some (.jq cs))->∀cs,h.get x≠some (.jq cs):=λx hx q cs e=>by
    cases e0:h0.get x with
    |none=>exact hx e0
    |some o=>rw[(hsub x o e0).2.1]at e;exact q cs (by rw[e0];exact e)
   exact hW.inj i j g k (hb0 i g hg).2 (hb0 j k hk).2 (hlive i hi) (hlive j hj) (hr.imp (pass _ hi) (pass _ hj)) he
 have yK:=(VR.func hfr ha hcap).cut hfn;cases yK with
 |func afk ha0 hcap0=>
 obtain⟨nx,F0,n1,n2,n3⟩:=hc (β.cut h0.next) w fn' args' cap' hG0 hW0 afk ha0 hcap0;refine⟨nx,F0,n1,n2,λcs0 uF=>?_⟩;obtain⟨r,pm',h',β',w',r',cs1,q1,q2,q3,q4,q5,q6⟩:=n3 cs0 (by intro m hm;rw[hq]at hm;cases hm);obtain⟨hpm,rfl,hlow'⟩:=h1 r pm' h' q1;subst hpm;cases q4 with
 | @ok v v' nW=>
   have hvv:=nW.pF hv;subst hvv;have Ox:WR P β h w':=by
    refine⟨hW.dom,hW.live,?_,hW.inj⟩;intro i g o hg ho;have hor:=hW.obj i g o hg ho;by_cases hb:∀j k,β.cut h0.next j=some k->h0.get j≠none->k.b≠g.b
    .exact hor.congr (q3.keep g.b hor.lt hb)
    .have hb:∃j k,β.cut h0.next j=some k/\h0.get j≠none/\k.b=g.b:=by
      exact kq
     obtain⟨j,k,hk,hj,hkb⟩:=hb;cases e:h0.get j with
     |none=>exact absurd e hj
     |some o0=>
      obtain⟨hjn,hget,hcl⟩:=hsub j o0 e;have hij:i=j:=hW.inj i j g k hg (hb0 j k hk).2 (by rw[ho];simp) vi (.inr (by rw[hget];intro cs e;cases e;cases hcl)) hkb.symm;subst hij;rw[hget]at ho;cases ho;have hgk:g=k:=by have:=(hb0 i k hk).2;rw[hg]at this;cases this;rfl
      subst hgk;have hk':h'.get i=some o:=by rw[q3.kept i (by rw[hlow'];exact hjn) hjn];exact e
      have afm:=q2.obj i g _ (by rw[q3.agree i hjn];exact hk) hk';exact((hor.cut hcl).restrict (q3.le hW0.dom) afm).mono (aD.afi _ _)
   have hE:Eff β h w β h w':=
    {agree:=λ_ _=>rfl
     next:=bz _
     alive:=λ_ _ hn=>hn
     hid:=λ_ _ _=>rfl
     low:=bz _
     kept:=λ_ _ _=>rfl
     os:=q3.os,tape:=q3.tape,output:=q3.output,drawn:=q3.drawn,size:=q3.size
     keep:=λb hb hno=>q3.keep b hb λi g hg hn=>hno i g (hb0 i g hg).2 (hlive i hn)
     fresh:=λi g hg hi=>absurd (hW.dom i g hg) p0
     sU:=λi g _ hi hg hn hgb=>by
      by_cases hb:∀j k,β.cut h0.next j=some k->h0.get j≠none->k.b≠g.b
      .exact q3.keep g.b hgb hb
      .have hb:∃j k,β.cut h0.next j=some k/\h0.get j≠none/\k.b=g.b:=by
        exact kq
       obtain⟨j,k,hk,hj,hkb⟩:=hb;have hjn:=(hb0 j k hk).1;rw[<- hkb];exact q3.sU j k (by rw[hlow'];exact hjn) hjn hk hj (by rw[hkb];exact hgb)}
   exact⟨_,none,h,β,w',.returned v',cs1,hk,Ox,hE,.ok (VR.free hv),by rw[hq]at q5⊢;cases q5;exact .none _,by
    exact pP⟩
def afn{q:aX}{h:IH}{K:KR}(M:KR)(hc:kI P q h M)
 (hk:∀r pm h',M r pm h'->∃h'',h''.next=h'.next/\h''.low=h'.low/\(∀i,h''.get i=h'.get i\/(h.next<=i/\h''.get i=none))/\K r pm h''):kI P q h K:=by
 intro β w fn' args' cap' hG hW hfr ha hcap;obtain⟨nx,F0,n1,n2,n3⟩:=hc β w fn' args' cap' hG hW hfr ha hcap;refine⟨nx,F0,n1,n2,λcs0 uF=>?_⟩;obtain⟨r,pm',h',β',w',r',cs1,q1,q2,q3,q4,q5,q6⟩:=n3 cs0 uF;obtain⟨h'',e1,e2,e3,e4⟩:=hk r pm' h' q1;have hlive:∀i,h''.get i≠none->h'.get i≠none:=λi hi=>by
  rcases e3 i with e|e
  .rw[e]at hi;exact hi
  .exact absurd e.2 hi
 have hget:∀i o,h''.get i=some o->h'.get i=some o:=λi o ho=>by
  rcases e3 i with e|e
  .rw[e]at ho;exact ho
  .rw[e.2]at ho;cases ho
 have pass:∀x,h''.get x≠none->(∀cs,h''.get x≠some (.jq cs))->∀cs,h'.get x≠some (.jq cs):=λx hx q cs e=>by
  rcases e3 x with e'|e'
  .exact q cs (by rw[e'];exact e)
  .exact hx e'.2
 have hold:∀i,i<h.next->h''.get i=h'.get i:=λi hi=>by
  rcases e3 i with e|e
  .exact e
  .omega
 have Ox:WR P β' h'' w':=
  ⟨λi g hg=>by rw[e1];exact q2.dom i g hg,λi o ho=>by rw[e1];exact q2.live i o (hget i o ho),λi g o hg ho=>q2.obj i g o hg (hget i o ho),
   λi j g k hg hk hi hj hr he=>q2.inj i j g k hg hk (hlive i hi) (hlive j hj) (hr.imp (pass _ hi) (pass _ hj)) he⟩
 have hE:Eff β h w β' h'' w':=
  {agree:=q3.agree
   next:=by rw[e1];exact q3.next
   alive:=λi hi hn=>q3.alive i hi (hlive i hn)
   hid:=λi hi hb=>by rw[hold i hi];exact q3.hid i hi hb
   low:=by rw[e2];exact q3.low
   kept:=λi hl hi=>by rw[hold i hi];exact q3.kept i (by rw[<- e2];exact hl) hi
   os:=q3.os,tape:=q3.tape,output:=q3.output,drawn:=q3.drawn,size:=q3.size,keep:=q3.keep,fresh:=q3.fresh
   sU:=λj k hl hj hk hn hb=>q3.sU j k (by rw[<- e2];exact hl) hj hk hn hb}
 exact⟨r,pm',h'',β',w',r',cs1,e4,Ox,hE,q4,q5,q6⟩
def UM(sW:P.follows .mixedOrders=true){q:aX}{h:IH}{K:KR}(e:CALL P q h K):kI P q h K:=by
 refine CALL.rec (P:=P) (motive_1:=λc a h K _=>l5 P c a h K) (motive_2:=λds l a h K _=>oJ P ds l a h K) (motive_3:=λcf ts ds m h K _=>yJ P cf ts ds m h K) (motive_4:=λq h K _=>kI P q h K)
  ?_ ?_ ?_ ?_ ?_ ?_ ?_ ?_ ?_ ?_ ?_ ?_ ?_ ?_ ?_ ?_ ?_ ?_ ?_ ?_ ?_ ?_ ?_ ?_ ?_ ?_ ?_ ?_ ?_ ?_ ?_ ?_ e
 .intros;apply aeA;assumption
 .intros;apply aez sW;assumption
 .intro x y a h K M _ _ h3 i1 i2;exact aeB M i1 i2 h3
 .intro c x y a h K hc _ i1;exact Ux (t:=true) hc i1
 .intro c x y a h K hc _ i1;exact Ux (t:=false) hc i1
 .intro id c a h K M _ h2 i1;exact aeD M i1 h2
 .intro c a h K M _ _ h3 i1 i2;exact aeE M i1 i2 h3
 .intro c a h K _ i1;exact aeF i1
 .intro id a h K hk;exact aeG hk
 .intro a h K hk;exact aeH hk
 .intro f ps assign body a h K fn first captured hf a1 h1 r hr M _ hok jv i1;exact afg fn first captured hf a1 h1 r hr M i1 hok jv
 .intro c a h K a0 hw hn _ i1;exact aeI a0 hw hn i1
 .intro ds a h K hk;exact adZ hk
 .intro ds s l a h K hw _ i1;exact ad1 hw i1
 .intro ds s l a h K hw v h' hr hs _ i1;exact ad3 hw v h' hr hs i1
 .intro ds s l a h K hw q hq M _ hs _ jv i1 i2;exact aed hw q hq M i1 hs i2 jv
 .intro ds s l a h K hw ho hre hm hro _ i1;exact aeh hw ho hre hm hro i1
 .intro ds s l a h K hw ho hre m hm hro _ i1;exact aej hw ho hre m hm hro i1
 .intro ds s l a h K hw x ho t v hx hk;exact aef hw x ho t v hx hk
 .intro ds s l a h K hw f args ho hre hro fn first captured hf _ i1;exact aeg hw f args ho hre hro fn first captured hf i1
 .intro ds s l a h K hw x ho hre alts ha _ i1;exact aeq hw x ho hre alts ha i1
 .intro cf ts h K v hv hk;exact aeP v hv hk
 .intro cf ts h K ch hk;exact aeQ ch hk
 .intro cf ts args ds m h K hm r hr _ i1;exact aeR hm r hr i1
 .intro cf ts fn captured args ds m h K hm M _ hpm _ _ i1 i2 i3;exact aeU hm M i1 hpm i2 i3
 .intro q h K f args ht fn hf cf hcf M _ h2 _ i1 i3;exact aeY f args ht fn hf cf hcf M i1 h2 i3
 .intro q h K l hq hpm r hr hargs M _ h2 _ i1 i3;exact afa l hq hpm r hr hargs M i1 h2 i3
 .intro q h K cs n f hcs hne hf M _ hq h1 hk i1;exact ae2 cs n f hcs hne hf M i1 hq h1 hk
 .intro q h K M _ hk i1;exact D8 M i1 hk
 .intro q h K M _ hk i1;exact afn M i1 hk
 .intro q h K h0 v hv hq hfn hnext hgl hsub M _ h1 hk i1;exact afj h0 v hv hq hfn hgl hsub M i1 h1 hk
 .intro q h K hm;exact hm
