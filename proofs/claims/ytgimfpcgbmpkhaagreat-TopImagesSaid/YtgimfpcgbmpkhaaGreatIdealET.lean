/- Part. -/
import Derived.Test.YtgimfpcgbmpkhaaGreatIdealCT
import Derived.Orders
set_option linter.all false
namespace Go.Ideal
variable {P:Program}
def Yb{α γ:Type}{f:α->az γ}{x:α}{l:ae α}{r:ae γ}(h:(x::l).mapM f=some r):∃y r',f x=some y/\l.mapM f=some r'/\r=y::r':=by
 simp only[List.mapM_cons]at h;cases hx:f x with
 |none=>rw[hx]at h;cases h
 |some y=>
  rw[hx]at h;cases hl:l.mapM f with
  |none=>rw[hl]at h;cases h
  |some r'=>
   grind
def Ct(i j:Nat):Bool:=decide (j<i)
def agU(ops:Array Oper):∀(os:ae Oper) (k:Nat) (done:ae Nat) (l:ae bV),ops.toList.drop k=os->(∀j,j∈done↔j<k)->
 (os.mapM λo=>(I7 P ops o).map λs=>(⟨s,[]⟩:bV))=some l->k+os.length=ops.size->Cs P ops Ct (λ_=>true) (List.range' k os.length) done l:=by
 intro os;induction os with
 |nil=>
  intro k done l _ hd hm hk;simp only[List.mapM_nil,Option.pure_def,bC]at hm;exact⟨hm.symm,(by grind)⟩
 |cons o os ih=>
  intro k done l hdrop hd hm hk;obtain⟨p,r,h1,h2,rfl⟩:=Yb hm;have hlt:k<ops.size:=by simp at hk;omega
  have hko:ops[k]? =some o:=by
   have:(ops.toList.drop k)[0]? =some o:=by rw[hdrop];rfl
   grind
  cases hs:I7 P ops o with
  |none=>rw[hs]at h1;cases h1
  |some s=>
   rw[hs]at h1;simp only[oJ,bC]at h1;subst h1;have hbef:∀j∈done,Ct k j=true:=λj hj=>by have:=(hd j).1 hj;simpa[Ct]using this
   have hstep:yf ops Ct (λ_=>true) done k:=
    {lt:=hlt,new:=(by grind),pre:=λj hj=>(hd j).2 (by simpa[Ct]using hj)
     heavy:=(by grind)
     own:=λhc=>(by cases hc)
     put:=(by grind)
     look:=(by grind)}
   refine⟨hstep,s,[],r,rfl,by simp[mY,hko,hs],λhc=>(by cases hc),(by grind),?_⟩;refine ih (k+1) (k::done) r ?_ (λj=>?_) h2 (by simp at hk;omega)
   .rw[<- List.drop_drop,hdrop];rfl
   grind
def agV(n:Nat)(ops:Array Oper)(hn:ops.size=n):∀(m k:Nat) (S:ae Nat),k+m=n->(∀j,j∈S↔j<k)->zq ops Ct S (List.range' k m):=by
 intro m;induction m with
 |zero=>intro k S hk hS i hi yo;grind
 |succ m ih=>
  intro k S hk hS;refine⟨s6,(by grind),λj hj=>(hS j).2 (by simpa[Ct]using hj),?_⟩
  grind
def direct(ops:Array Oper)(i j:Nat):Prop:=∃o,ops[i]? =some o/\∃e∈o.after.toList,Region.binds .any e=true/\e.on=j
def agW(look:Nat->Nat)(j:Nat):∀(l:ae Edge) (s:Nat),(l.foldl (λs e=>if Region.binds .any e then s|||2^e.on|||look e.on else s) s).testBit j=true↔
 s.testBit j=true\/∃e∈l,Region.binds .any e=true/\(e.on=j\/(look e.on).testBit j=true):=by
 intro l;induction l with
 |nil=>intro s;simp
 |cons e l ih=>
  grind
def agX(l:ae Oper):∀(A:Array Nat),let B:=l.foldl (λ(acc:Array Nat) o=>acc.push (o.after.foldl (λs e=>if Region.binds .any e then s|||2^e.on|||acc.getD e.on 0 else s) 0)) A
 B.size=A.size+l.length/\(∀i,i<A.size->B.getD i 0=A.getD i 0)/\∀(i:Nat) o,l[i]? =some o->∃look:Nat->Nat,B.getD (A.size+i) 0=o.after.toList.foldl (λs e=>if Region.binds .any e then s|||2^e.on|||look e.on else s) 0/\∀k,look k=if k<A.size+i then B.getD k 0 else 0:=by
 induction l with
 |nil=>grind
 |cons o l ih=>
  intro A;simp only[vI];let v:=o.after.foldl (λs e=>if Region.binds .any e then s|||2^e.on|||A.getD e.on 0 else s) 0
  obtain⟨h1,h2,h3⟩:=ih (A.push v);refine⟨by rw[h1];simp;omega,λi hi=>?_,λi o' ho'=>?_⟩
  .rw[h2 i th];simp[Ac,Array.getElem?_push,show i≠A.size by omega]
  .cases i with
   |zero=>
    simp only[FE,bC]at ho';subst ho';refine⟨λk=>A.getD k 0,?_,λk=>?_⟩
    .rw[FD,h2 A.size s7];have:(A.push v).getD A.size 0=v:=by simp[Ac]
     grind
    .simp only[FD];by_cases hk:k<A.size
     .rw[if_pos hk,h2 k th];simp[Ac,Array.getElem?_push,show k≠A.size by omega]
     grind
   |succ i=>
    obtain⟨look,q1,q2⟩:=h3 i o' (by simpa using ho');refine⟨look,?_,λk=>?_⟩
    .grind
    grind
def RY(ops:Array Oper)(i j:Nat)(hi:i<ops.size):vM ops i j=true↔direct ops i j\/∃k,direct ops i k/\k<i/\vM ops k j=true:=by
 obtain⟨_,_,h3⟩:=agX ops.toList #[];simp only[Array.size_empty,gq,List.size_toArray,BP]at h3;obtain⟨look,q1,q2⟩:=h3 i ops[i] (by simp[hi]);have hB:Region.before ops=ops.toList.foldl (λ(acc:Array Nat) o=>acc.push (o.after.foldl (λs e=>if Region.binds .any e then s|||2^e.on|||acc.getD e.on 0 else s) 0)) #[]:=by
  unfold Region.before
  grind
 rw[<- hB]at q1 q2;show((Region.before ops).getD i 0).testBit j=true↔direct ops i j\/∃k,direct ops i k/\k<i/\((Region.before ops).getD k 0).testBit j=true;rw[q1,agW];simp only[Nat.zero_testBit,DR,false_or];have ho:ops[i]? =some ops[i]:=by simp[hi]
 constructor
 .rintro⟨e,he,hb,h|h⟩
  .exact .inl ⟨_,ho,e,he,hb,h⟩
  .rw[q2]at h;split at h
   .rename_i hlt;exact .inr ⟨e.on,⟨_,ho,e,he,hb,rfl⟩,hlt,h⟩
   .simp at h
 .rintro(⟨o,ho',e,he,hb,rfl⟩|⟨k,⟨o,ho',e,he,hb,rfl⟩,hk,h⟩)
  .grind
  grind
end Go.Ideal
namespace Go.Ideal
variable {P:Program}
variable{ops:Array Oper}{done:ae Nat}
def Yc{i:Nat}(hi:i<ops.size):FX ops done i=true↔i∉done/\∀j,direct ops i j->j∈done:=by
 have ho:ops[i]? =some ops[i]:=by simp[hi]
 unfold FX;simp only[ho,gV,jU,IV];constructor
 .rintro⟨h1,h2⟩;refine⟨(by grind),?_⟩;rintro j ⟨o,ho',e,he,hb,rfl⟩
  grind
 .rintro⟨h1,h2⟩;refine⟨by simpa using h1,λe he=>?_⟩;cases hb:Region.binds .any e with
  |false=>exact .inl rfl
  |true=>exact .inr (by simpa using h2 e.on ⟨_,ho,e,he,hb,rfl⟩)
def closed(ops:Array Oper)(done:ae Nat):Prop:=∀k∈done,∀j,vM ops k j=true->j∈done
def Yd(hcl:closed ops done){i:Nat}(hi:i<ops.size)(hd:∀j,direct ops i j->j∈done):∀j,vM ops i j=true->j∈done:=λj hj=>by
 rcases(RY ops i j hi).1 hj with h|⟨k,h1,_,h2⟩
 .exact hd j h
 .exact hcl k (hd k h1) j h2
def agY(ops:Array Oper):∀(rest done:ae Nat) (l:ae bV),I8 ops (vM ops) (Ch P ops) rest done=true->I9 (vM ops) (mY P ops) rest done=some l->closed ops done->
 Cs P ops (vM ops) (Ch P ops) rest done l:=by
 intro rest;induction rest with
 |nil=>
  intro done l ho hp _;simp only[I9,bC]at hp;refine⟨hp.symm,λi hi=>?_⟩;simp only[I8,jU,xP]at ho;simpa using ho i hi
 |cons i rest ih=>
  intro done l ho hp hcl;simp only[I8,gV]at ho;obtain⟨hs,ho⟩:=ho;simp only[I9]at hp;split at hp
  .rename_i s r hcs hr;simp only[bC]at hp;subst hp;obtain⟨o,hoi,iK,hdst,_⟩:=qQ hcs;have hlt:i<ops.size:=(QF.1 hoi).1;have Ye:Ch P ops i=heavy s.op:=by simp[Ch,hcs]
   unfold Xm at hs;rw[hoi]at hs;simp only[gV]at hs;obtain⟨⟨⟨s1,s2⟩,s3⟩,s4⟩:=hs;obtain⟨r1,r2⟩:=(Yc hlt).1 s1;have hpre:=Yd hcl hlt r2;have hstep:yf ops (vM ops) (Ch P ops) done i:=
    {lt:=hlt,new:=r1,pre:=hpre
     heavy:=λhv=>by
      rw[hv]at s2;simp only[Bool.not_true,QG,gV,jU,IV,Md,xP]at s2;refine⟨λj hj M3=>(s2.1 j hj).resolve_left (by rw[M3];simp),λj hj M3 hjd=>?_⟩;have hnr:=(s2.2 j hj).resolve_left (by rw[M3];simp);refine Classical.byContradiction λhno=>?_;have:=(Yc hj).2 ⟨hjd,λk hk=>Decidable.byContradiction λhkd=>hno ⟨k,(RY ops j k hj).2 (.inl hk),hkd⟩⟩;rw[this]at hnr;cases hnr
     own:=λhv o' d ho' hd=>by
      rw[hoi]at ho';cases ho';rw[hd]at s3;simp only[hv,QG,gV,Md]at s3;intro hc;have:=s3.1;rw[List.contains_iff_mem.2 hc]at this;cases this
     put:=λo' d ho' hd j hj p hp' hc=>by
      rw[hoi]at ho';cases ho';rw[hd]at s3;simp only[gV,jU]at s3;have:=s3.2 j hj;rw[hp']at this;simp only at this;rw[if_pos (by
       simp only[IV];rcases hc with h|h
       .exact .inl (List.contains_iff_mem.2 h)
       .exact .inr (by rw[h];simp))]at this
      simpa using this
     look:=λo' ho' j hj p hp' d hd hdl=>by
      rw[hoi]at ho';cases ho';simp only[jU]at s4;have:=s4 j hj;rw[hp']at this;simp only[hd]at this;rw[if_pos (List.contains_iff_mem.2 hdl)]at this;exact this}
   have Yf:closed ops (i::done):=λk hk j hj=>by
    exact oE
   refine⟨hstep,s,_,r,rfl,hcs,λhv=>by rw[<- Ye];exact hv,λhv j hj M3 hb t ht hrd=>?_,ih (i::done) r ho hr Yf⟩;rw[Ye]at hv;rw[if_pos hv];refine IU.2 ⟨j,hj,?_⟩;rw[ht];simp only[hrd,hb,Bool.not_false,Bool.and_self,if_true]
  .cases hp
def agZ(ops:Array Oper):∀(fuel t:Nat) (listed:Array Bool) (S:ae Nat),listed.size=ops.size->(∀j,j∈S↔listed.getD j false=true)->listed.countP (λb=>!b)<=fuel->closed ops S->
 zq ops (vM ops) S (Region.linearise.go .any ops fuel t listed []):=by
 intro fuel;induction fuel with
 |zero=>
  intro t listed S hsz hS hc _;intro i hi yo
  exfalso
  apply yo;rw[hS];have h0:listed.countP (λb=>!b)=0:=s6
  rw[Array.countP_eq_zero]at h0;have hlt:i<listed.size:=s6
  have:=h0 listed[i] (Array.getElem_mem hlt);simp[hlt];simpa using this
 |succ fuel ih=>
  intro t listed S hsz hS hc hcl;have hrd:∀i,i∈Region.ready .any ops listed↔i<ops.size/\i∉S/\∀j,direct ops i j->j∈S:=by
   intro i;rw[mem_ready];constructor
   .rintro⟨h1,o,ho,h2⟩;have hlt:i<ops.size:=(QF.1 ho).1;refine⟨hlt,λyo=>?_,?_⟩
    .rw[hS]at yo;have hl:i<listed.size:=by omega
     simp[hl]at h1 yo;rw[h1]at yo;cases yo
    .rintro j ⟨o',ho',e,he,hb,rfl⟩;rw[ho]at ho';cases ho';rw[hS];exact h2 e (by simpa using he) hb
   .rintro⟨h1,h2,h3⟩;refine⟨?_,ops[i],by simp[h1],λe he hb=>?_⟩
    .rw[hS]at h2;have hl:i<listed.size:=by omega
     simp[hl]at h2⊢;exact h2
    .rw[<- hS];exact h3 e.on ⟨ops[i],by simp[h1],e,by simpa using he,hb,rfl⟩
  change zq ops (vM ops) S (match (Region.ready .any ops listed)[t%(Region.ready .any ops listed).length]? with
   |some i=>Region.linearise.go .any ops fuel (t/(Region.ready .any ops listed).length) (listed.setIfInBounds i true) [i]
   |none=>[].reverse)
  cases hi:(Region.ready .any ops listed)[t%(Region.ready .any ops listed).length]? with
  |none=>
   have hnil:Region.ready .any ops listed=[]:=by
    cases hr:Region.ready .any ops listed with
    |nil=>rfl
    |cons x xs=>
     rw[hr]at hi;have hlt:t%(x::xs).length<(x::xs).length:=BN _ s7;simp at hi;simp at hlt;omega
   intro i hilt yo;have hnr:i∉Region.ready .any ops listed:=by rw[hnil];simp
   rw[hrd]at hnr;refine Classical.byContradiction λhno=>hnr ⟨hilt,yo,λj hj=>Decidable.byContradiction λhjS=>hno ⟨j,(RY ops i j hilt).2 (.inl hj),hjS⟩⟩
  |some i=>
   simp only;rw[linearise_go_acc,List.reverse_singleton,List.singleton_append];obtain⟨h1,h2,h3⟩:=(hrd i).1 (aV hi);have hpre:=Yd hcl h1 h3;have hl:i<listed.size:=s6
   refine⟨h1,h2,hpre,ih _ _ _ (by simpa using hsz) (λj=>?_) ?_ ?_⟩
   .rw[dm,hS];by_cases e:j=i
    .subst e;simp[hl]
    .simp[e,aeN (Ne.symm e)]
   .have hfalse:listed[i]=false:=by
     rw[hS]at h2;simp[hl]at h2;exact h2
    have:(listed.setIfInBounds i true).countP (λb=>!b)=listed.countP (λb=>!b) - 1:=by
     have:=Array.countP_set (p:=λb=>!b) (a:=true) hl;rw[Array.setIfInBounds,dif_pos hl,this];simp[hfalse]
    omega
   .intro k hk j hj;exact oE
def ag1(sW:P.follows .mixedOrders=true){ds:ae Tmp}{l:ae bV}{a:bE}{h:IH}{K:KO}(hM:qy P ds l a h K):nN P (.ops ds l) a h K:=by
 intro code it hcode hst β w b tm df k cs hG hW hA hcx;cases code<;>simp only[compile,reduceCtorEq]at hcode
 case rangeFunc f ps x y=>grind
 case region id ops draw=>
  obtain rfl:it=.code (.region id ops draw):=hst.resolve_right (by grind);have hinv:∀(cZ:Nat->Nat->Bool) (hv:Nat->Bool) (w':World),w'.heap=w.heap->w'.os=w.os->w'.tape=w.tape->w'.output=w.output->w.drawn<=w'.drawn->Inv P ops hv cZ β h w [] [] β a h w' tm df:=λcZ hv w' e1 e2 e3 e4 e5=>
   {xe:=trivial,sub:=(by grind),JA:=(by grind)
    pend:=⟨λ_=>0,(by grind),(by grind)⟩
    act:=⟨hA.size,λi _=>hA.tmps i λhh=>hh,hA.out,hA.defers⟩
    wr:=hW.qO e1,xg:=Eff.qO hW.dom e1 e2 e3 e4 e5}
  have hdst:∀(i:Nat) o d,ops[i]? =some o->o.dst=some d->d∈dstsOf ops:=λi o d ho hd=>IU.2 (by grind);unfold Mx at hcode;cases draw with
  |false=>
   split at hcode
   .rename_i l' hl;simp only[dD.ops.injEq]at hcode;obtain⟨rfl,rfl⟩:=hcode;have hp:=agU (P:=P) ops ops.toList 0 [] l' s7 s7 hl s7;have hr:=agV ops.size ops rfl ops.size 0 [] s6 s7;refine .of_steps (.one agd) (hM ops Ct (λ_=>true) _ [] [] hp hdst β h w a.pm a.ro cs β w b tm df k cs (List.range ops.size) hG hW.dom hcx (by grind) ?_ hcx.start rfl);rw[List.range_eq_range'];exact hr
   .cases hcode
  |true=>
   simp only[if_true]at hcode;split at hcode
   .rename_i l' hl;simp only[dD.ops.injEq]at hcode;obtain⟨rfl,rfl⟩:=hcode;unfold Xn at hl;simp only at hl;split at hl
    .rename_i hok;have hp:=agY (P:=P) ops _ [] l' hok hl (λk hk=>by simp at hk);refine .of_steps (.one age) (hM ops (vM ops) (Ch P ops) _ [] [] hp hdst β h w a.pm a.ro cs β {w with drawn:=w.drawn+1} b tm df k cs _ hG hW.dom hcx (by grind) ?_ hcx.start rfl);simp only[Region.schedule,sW,Bool.true_or,if_true,Region.linearise];refine agZ ops _ _ _ [] s7 (λj=>?_) ?_ (λk hk=>by simp at hk)
     .simp only[IR,false_iff];intro hc;by_cases hj:j<ops.size
      .simp[hj]at hc
      .simp[hj]at hc
     .simpa using Array.countP_le_size (xs:=Array.replicate ops.size false) (p:=λb=>!b)
    .cases hl
   .cases hcode
end Go.Ideal
namespace Go.Ideal
variable {P:Program}
def RQ.code{code:Code}{it:Item}(h:RQ code it)(hn:∀body,code≠.loop body):it=.code code:=h.resolve_right (by grind)
def AA{ops:Array Oper}{draw:Bool}{c:dD}(h:Mx P ops draw=c):(∃ds l,c=.ops ds l)\/c=.fail:=by
 unfold Mx at h
 grind
def Post.after{β0:aQ}{h0:IH}{w0:World}{lF:az FrameMode}{kE:az Nat}{b:Frame}{cs0 cs1:ae Frame}{k:ae Item}{K:KO}{M:Machine}{β1:aQ}{h1:IH}{w1:World}{Yg:az FrameMode}
 (he:Eff β0 h0 w0 β1 h1 w1) (hc:qx β1 lF Yg cs0 cs1) (hp:Post P β1 h1 w1 Yg kE b cs1 k K M):Post P β0 h0 w0 lF kE b cs0 k K M:=by
 obtain⟨o,a',h',β',w',tm',iF,cs',q1,q2,q3,q4,q5,q6,q7⟩:=hp;exact⟨o,a',h',β',w',tm',iF,cs',q1,q2,he.trans q3,q4,hc.trans q5,q6,q7⟩
section
variable {a:bE} {h:IH} {K:KO}
def ag2(hk:K .normal a h):nN P .skip a h K:=by
 intro code it hcode hst β w b tm df k cs hG hW hA hcx;cases code<;>simp only[compile,reduceCtorEq]at hcode
 case skip=>
  obtain rfl:=hst.code s7;exact⟨.normal,a,h,β,w,tm,df,cs,hk,hW,Eff.refl _ _ _ hW.dom,hA,hcx.start,rfl,.one af3⟩
 case label l=>
  obtain rfl:=hst.code s7;exact⟨.normal,a,h,β,w,tm,df,cs,hk,hW,Eff.refl _ _ _ hW.dom,hA,hcx.start,rfl,.one af4⟩
 case region id ops draw=>rcases AA hcode with⟨_,_,h1⟩|h1<;>cases h1
 grind
variable{x y:dD}
def ag3(M:KO)(h1:nN P x a h M)(h2:∀a' h',M .normal a' h'->nN P y a' h' K)(h3:∀o a' h',M o a' h'->o≠.normal->K o a' h'):nN P (.seq x y) a h K:=by
 intro code it hcode hst β w b tm df k cs hG hW hA hcx;cases code<;>simp only[compile,reduceCtorEq]at hcode
 case region id ops draw=>rcases AA hcode with⟨_,_,h1⟩|h1<;>cases h1
 case rangeFunc f ps x y=>grind
 case seq cx cy=>
  simp only[dD.seq.injEq]at hcode;obtain⟨M4,hcy⟩:=hcode;obtain rfl:=hst.code s7;obtain⟨o,a',h',β',w',tm',iF,cs',q1,q2,q3,q4,q5,q6,q7⟩:=h1 cx _ M4 (.inl rfl) β w b tm df (.code cy::k) cs hG hW hA hcx;have hle:=q3.le hW.dom;cases o with
  |normal=>
   have:=h2 a' h' q1 cy _ hcy (.inl rfl) β' w' b tm' iF k cs' (hG.le hle) q2 q4 CH;rw[q6]at this;exact .of_steps ((Steps.one MS).trans q7) (this.after q3 q5)
  |exit id=>
   obtain⟨todo,e1,e2⟩:=q7;exact⟨_,a',h',β',w',tm',iF,cs',h3 _ _ _ q1 s7,q2,q3,q4,q5,q6,todo,e1.trans (by simp[exitTo]),(Steps.one MS).trans e2⟩
  |ret=>
   obtain⟨todo,e2⟩:=q7;exact⟨_,a',h',β',w',tm',iF,cs',h3 _ _ _ q1 s7,q2,q3,q4,q5,q6,todo,(Steps.one MS).trans e2⟩
  |panic ch=>
   obtain⟨todo,ch',e1,e2⟩:=q7;exact⟨_,a',h',β',w',tm',iF,cs',h3 _ _ _ q1 s7,q2,q3,q4,q5,q6,todo,ch',e1,(Steps.one MS).trans e2⟩
def ag4{β:aQ}{tm:Array ah}{df:ae Deferred}(hA:AR β none' a tm df){c:aB}{t:Bool}(hc:a.eval c=.bool t):Act.eval ⟨tm,df⟩ c=.bool t:=by
 cases c with
 |tmp i=>
  have:=hA.tmps i (λhh=>hh);have hc':dZ a.tmps i=.bool t:=hc;rw[hc']at this;exact this.MK
 |const v=>exact hc
 |global g=>cases hc
 |func f=>cases hc
def Yh{c:aB}{t:Bool}(hc:a.eval c=.bool t)(h1:nN P (if t then x else y) a h K):nN P (.cond c x y) a h K:=by
 intro code it hcode hst β w b tm df k cs hG hW hA hcx;cases code<;>simp only[compile,reduceCtorEq]at hcode
 case region id ops draw=>rcases AA hcode with⟨_,_,h1⟩|h1<;>cases h1
 case rangeFunc f ps x y=>grind
 case cond c' cx cy=>
  obtain⟨rfl,M4,hcy⟩:=hcode;obtain rfl:=hst.code s7;refine .of_steps (.one (af9 (ag4 hA hc))) (h1 (if t then cx else cy) _ ?_ (.inl rfl) β w b tm df k cs hG hW hA hcx)
  grind
variable{c:dD}{id:Nat}
def ag5(M:KO)(h1:nN P c a h M)(h2:∀o a' h',M o a' h'->K (inBlock id o) a' h'):nN P (.block id c) a h K:=by
 intro code it hcode hst β w b tm df k cs hG hW hA hcx;cases code<;>simp only[compile,reduceCtorEq]at hcode
 case region id ops draw=>rcases AA hcode with⟨_,_,h1⟩|h1<;>cases h1
 case rangeFunc f ps x y=>grind
 case block id' cx=>
  simp only[dD.block.injEq]at hcode;obtain⟨rfl,M4⟩:=hcode;obtain rfl:=hst.code s7;obtain⟨o,a',h',β',w',tm',iF,cs',q1,q2,q3,q4,q5,q6,q7⟩:=h1 cx _ M4 (.inl rfl) β w b tm df (.inBlock id'::k) cs hG hW hA hcx;have hk:=h2 o a' h' q1;cases o with
  |normal=>exact⟨.normal,a',h',β',w',tm',iF,cs',hk,q2,q3,q4,q5,q6,((Steps.one Jw).trans q7).trans (.one af5)⟩
  |exit j=>
   obtain⟨todo,e1,e2⟩:=q7;cases hb:Nat.beq j id' with
   |true=>
    have hj:=uj hb;subst hj;have hk':K .normal a' h':=by
     have:inBlock j (.exit j)=.normal:=by simp only[inBlock,hb,cond_true]
     grind
    have he:exitTo j todo=some k:=by rw[e1];simp[exitTo]
    exact⟨.normal,a',h',β',w',tm',iF,cs',hk',q2,q3,q4,q5,q6,((Steps.one Jw).trans e2).trans (.one (aga he))⟩
   |false=>
    have hj:=IL hb;have hk':K (.exit j) a' h':=by
     have:inBlock id' (.exit j)=.exit j:=by simp only[inBlock,hb,cond_false]
     grind
    exact⟨.exit j,a',h',β',w',tm',iF,cs',hk',q2,q3,q4,q5,q6,todo,e1.trans (by simp[exitTo,Ne.symm hj]),(Steps.one Jw).trans e2⟩
  |ret=>
   obtain⟨todo,e2⟩:=q7;exact⟨.ret,a',h',β',w',tm',iF,cs',hk,q2,q3,q4,q5,q6,todo,(Steps.one Jw).trans e2⟩
  |panic ch=>
   obtain⟨todo,ch',e1,e2⟩:=q7;exact⟨.panic ch,a',h',β',w',tm',iF,cs',hk,q2,q3,q4,q5,q6,todo,ch',e1,(Steps.one Jw).trans e2⟩
def ag6(M:KO)(h1:nN P c a h M)(h2:∀a' h',M .normal a' h'->nN P (.loop c) a' h' K)(h3:∀o a' h',M o a' h'->o≠.normal->K o a' h'):nN P (.loop c) a h K:=by
 intro code it hcode hst β w b tm df k cs hG hW hA hcx;cases code<;>simp only[compile,reduceCtorEq]at hcode
 case region id ops draw=>rcases AA hcode with⟨_,_,h1⟩|h1<;>cases h1
 case rangeFunc f ps x y=>grind
 case loop cx=>
  simp only[dD.loop.injEq]at hcode;have hstep:step P (lone (fr b tm df (it::k)) cs w)=.next (lone (fr b tm df (.code cx::.inLoop cx::k)) cs w):=by
   rcases hst with rfl|⟨body,hb,rfl⟩
   .exact af7
   .simp only[Code.loop.injEq]at hb;subst hb;exact af8
  obtain⟨o,a',h',β',w',tm',iF,cs',q1,q2,q3,q4,q5,q6,q7⟩:=h1 cx _ hcode (.inl rfl) β w b tm df (.inLoop cx::k) cs hG hW hA hcx;have hle:=q3.le hW.dom;cases o with
  |normal=>
   have:=h2 a' h' q1 (.loop cx) (.inLoop cx) (by simp[compile,hcode]) (.inr ⟨cx,rfl,rfl⟩) β' w' b tm' iF k cs' (hG.le hle) q2 q4 CH;rw[q6]at this;exact .of_steps ((Steps.one hstep).trans q7) (this.after q3 q5)
  |exit id=>
   obtain⟨todo,e1,e2⟩:=q7;exact⟨_,a',h',β',w',tm',iF,cs',h3 _ _ _ q1 s7,q2,q3,q4,q5,q6,todo,e1.trans (by simp[exitTo]),(Steps.one hstep).trans e2⟩
  |ret=>
   obtain⟨todo,e2⟩:=q7;exact⟨_,a',h',β',w',tm',iF,cs',h3 _ _ _ q1 s7,q2,q3,q4,q5,q6,todo,(Steps.one hstep).trans e2⟩
  |panic ch=>
   obtain⟨todo,ch',e1,e2⟩:=q7;exact⟨_,a',h',β',w',tm',iF,cs',h3 _ _ _ q1 s7,q2,q3,q4,q5,q6,todo,ch',e1,(Steps.one hstep).trans e2⟩
def ag7(h1:nN P c a h K):nN P (.scope c) a h K:=by
 intro code it hcode hst β w b tm df k cs hG hW hA hcx;cases code<;>simp only[compile,reduceCtorEq]at hcode
 case region id ops draw=>rcases AA hcode with⟨_,_,h1⟩|h1<;>cases h1
 case rangeFunc f ps x y=>grind
 case scope cx=>
  simp only[dD.scope.injEq]at hcode;obtain rfl:=hst.code s7;obtain⟨o,a',h',β',w',tm',iF,cs',q1,q2,q3,q4,q5,q6,q7⟩:=h1 cx _ hcode (.inl rfl) β w b tm df (.inScope cx::k) cs hG hW hA hcx;cases o with
  |normal=>exact⟨_,a',h',β',w',tm',iF,cs',q1,q2,q3,q4,q5,q6,((Steps.one MU).trans q7).trans (.one af6)⟩
  |exit id=>
   obtain⟨todo,e1,e2⟩:=q7;exact⟨_,a',h',β',w',tm',iF,cs',q1,q2,q3,q4,q5,q6,todo,e1.trans (by simp[exitTo]),(Steps.one MU).trans e2⟩
  |ret=>
   obtain⟨todo,e2⟩:=q7;exact⟨_,a',h',β',w',tm',iF,cs',q1,q2,q3,q4,q5,q6,todo,(Steps.one MU).trans e2⟩
  |panic ch=>
   obtain⟨todo,ch',e1,e2⟩:=q7;exact⟨_,a',h',β',w',tm',iF,cs',q1,q2,q3,q4,q5,q6,todo,ch',e1,(Steps.one MU).trans e2⟩
def ag8(hk:K (.exit id) a h):nN P (.exit id) a h K:=by
 intro code it hcode hst β w b tm df k cs hG hW hA hcx;cases code<;>simp only[compile,reduceCtorEq]at hcode
 case region id ops draw=>rcases AA hcode with⟨_,_,h1⟩|h1<;>cases h1
 case rangeFunc f ps x y=>grind
 case exit j=>
  simp only[dD.exit.injEq]at hcode;subst hcode;obtain rfl:=hst.code s7;exact⟨_,a,h,β,w,tm,df,cs,hk,hW,Eff.refl _ _ _ hW.dom,hA,hcx.start,rfl,k,rfl,Steps.refl P _⟩
def ag9(hk:K .ret a h):nN P .ret a h K:=by
 intro code it hcode hst β w b tm df k cs hG hW hA hcx;cases code<;>simp only[compile,reduceCtorEq]at hcode
 case region id ops draw=>rcases AA hcode with⟨_,_,h1⟩|h1<;>cases h1
 case rangeFunc f ps x y=>grind
 case ret=>
  obtain rfl:=hst.code s7;exact⟨_,a,h,β,w,tm,df,cs,hk,hW,Eff.refl _ _ _ hW.dom,hA,hcx.start,rfl,k,Steps.refl P _⟩
def aha(a0:bE)(hw:∀i,dZ a0.tmps i=eY\/dZ a0.tmps i=dZ a.tmps i)(hn:a0.n=a.n/\a0.defers=a.defers/\a0.pm=a.pm/\a0.ro=a.ro)(h1:nN P c a0 h K):nN P c a h K:=by
 intro code it hcode hst β w b tm df k cs hG hW hA hcx;obtain⟨n1,n2,n3,n4⟩:=hn;have RZ:AR β none' a0 tm df:=⟨by rw[n1];exact hA.size,λi hi=>by
  rcases hw i with e|e
  .rw[e];exact .eY _
  .rw[e];exact hA.tmps i hi,λi hi=>by
  rw[n1]at hi;rcases hw i with e|e
  .exact e
  .rw[e];exact hA.out i hi,by rw[n2];exact hA.defers⟩
 have:=h1 code it hcode hst β w b tm df k cs hG hW RZ (by rw[n3,n4];exact hcx)
 grind
end
end Go.Ideal
namespace Go.Ideal
variable {P:Program}
def ahb(ts:T ah)(h:IH)(r:uy)(l:ae uy):Am ts h (r::l)=match wV ts h r,Am ts h l with
 |some v,some vs=>some (v::vs)
 |_,_=>none:=rfl
def Gn(tm:Array ah):ResultVar->Sem ah
 | .tmp t=>pure (tm.getD t undef)
 | .cell a t=>do loadVar t (<- asAddr (tm.getD a undef))
def ahc(fn:Func)(tm:Array ah):results fn tm=(do
 let vs <- fn.results.mapM (Gn tm)
 pure (if h:vs.size=1 then vs[0]else .tuple vs)):=by
 have:(λr=>match r with
  | .tmp t=>(pure (tm.getD t undef))
  | .cell a t=>do loadVar t (<- asAddr (tm.getD a undef)))=Gn tm:=by
  funext r;cases r<;>rfl
 rfl
variable{β:aQ}{h:IH}{w:World}{ts:T ah}{tm:Array ah}
def ahd(hW:WR P β h w)(ht:∀i,VR β (dZ ts i) (tm.getD i undef)){r:ResultVar}{c:uy}(hc:Ja P r=some c){v:ah}(hv:wV ts h c=some v):
 ∃v',(Gn tm r).run P w=.ok v' w/\VR β v v':=by
 cases r with
 |tmp t=>
  simp only[Ja,bC]at hc;subst hc;simp only[wV,bC]at hv;subst hv;exact⟨_,rfl,ht t⟩
 |cell a t=>
  simp only[Ja]at hc;split at hc
  .rename_i hagg;cases hs:kP P t with
   |none=>simp[hs]at hc
   |some n=>
    simp only[hs,oJ,bC]at hc;subst hc;simp only[wV]at hv;split at hv
    .rename_i i o ha;have hx:=ht a;rw[ha]at hx;obtain⟨g,hg,hx'⟩:=hx.x9;split at hv
     .rename_i cs hcs;simp only[bC]at hv;subst hv;obtain⟨blk,hb,hl⟩:=Xx hcs;obtain⟨l1,l2,l',l3,l4⟩:=MJ hW hg (.inl hb) hl;obtain⟨d,hd⟩:=Xw hagg;refine⟨.agg ⟨l'⟩,?_,.agg l2 l3⟩;have:=Q8 (P:=P) (by rw[l3.length,l1]) l4;simp only[Gn,dY,hx',asAddr,fZ,eZ,loadVar,Ga hd,hagg,pq hs,this,if_true]
     .cases hv
    .cases hv
  .rename_i hagg;split at hc
   .rename_i d hd;simp only[bC]at hc;subst hc;simp only[wV]at hv;split at hv
    .rename_i i o ha;have hx:=ht a;rw[ha]at hx;obtain⟨g,hg,hx'⟩:=hx.x9;split at hv
     .rename_i cs hcs;obtain⟨_,_,_,_,_,h7⟩:=hW.obj i g _ hg hcs;rw[uE]at hv;obtain⟨v',q1,q2⟩:=h7 _ _ hv;have Rf:kQ P t=false:=by simpa using hagg
      refine⟨v',?_,q2⟩;simp only[Gn,dY,hx',asAddr,loadVar,Ga hd,Rf,if_false];simp[q1]
     .cases hv
    .cases hv
   .cases hc
def ahe(hW:WR P β h w)(ht:∀i,VR β (dZ ts i) (tm.getD i undef)):∀(rs:ae ResultVar) (cs:ae uy) (vs:ae ah),rs.mapM (Ja P)=some cs->Am ts h cs=some vs->
 ∃vs',(rs.mapM (Gn tm)).run P w=.ok vs' w/\bB β vs vs':=by
 intro rs;induction rs with
 |nil=>
  intro cs vs hc hv;simp only[List.mapM_nil,Option.pure_def,bC]at hc;subst hc;change some []=some vs at hv
  simp only[bC]at hv;subst hv;exact⟨[],rfl,.nil⟩
 |cons r rs ih=>
  intro cs vs hc hv;obtain⟨c,cs',h1,h2,rfl⟩:=Yb hc;rw[ahb]at hv;split at hv
  .rename_i v vs1 hv1 ahf;simp only[bC]at hv;subst hv;obtain⟨v',q1,q2⟩:=ahd hW ht h1 hv1;obtain⟨vs',q3,q4⟩:=ih cs' vs1 h2 ahf;refine⟨v'::vs',?_,.cons q2 q4⟩;simp only[List.mapM_cons,dY,q1,eZ,q3,fZ]
  .cases hv
def ahg(hW:WR P β h w)(ht:∀i,VR β (dZ ts i) (tm.getD i undef)){fn:Func}{cf:iJ}(hc:xU P fn=some cf){v:ah}(hv:uA cf.results ts h=some v):
 ∃v',(results fn tm).run P w=.ok v' w/\VR β v v':=by
 unfold xU at hc;split at hc
 .rename_i body rs hb hrs;split at hc
  .cases hc
  simp only[bC]at hc;subst hc;have key:∀vs,Am ts h rs=some vs->∃vs',bB β vs vs'/\(results fn tm).run P w=.ok (if hh:(⟨vs'⟩:Array ah).size=1 then(⟨vs'⟩:Array ah)[0]else .tuple ⟨vs'⟩) w:=λvs hvs=>by
   obtain⟨vs',q1,q2⟩:=ahe hW ht fn.results.toList rs vs hrs hvs;refine⟨vs',q2,?_⟩;rw[ahc,Array.mapM_eq_mapM_toList];simp only[map_eq_pure_bind,dY];rw[q1];simp only[eZ,fZ]
  unfold uA at hv;split at hv
  .rename_i v1 hvs;simp only[bC]at hv;subst hv;obtain⟨vs',q1,q2⟩:=key _ hvs;cases q1 with
   |cons h1 h2=>
    cases h2;exact⟨_,q2,h1⟩
  .rename_i vs hnot hvs;simp only[bC]at hv;subst hv;obtain⟨vs',q1,q2⟩:=key _ hvs;refine⟨_,q2,?_⟩;have hne:¬(⟨vs'⟩:Array ah).size=1:=by
    intro h1;have hl:vs.length=1:=by rw[<- q1.length];exact h1
    match vs,hl with
    |[x],_=>exact hnot x rfl
   rw[dif_neg hne];exact .tuple q1
  .cases hv
 .cases hc
section
variable {cf:iJ} {ts:T ah} {h:IH} {K:jL->IH->Prop}
def ahh(v:ah)(hv:uA cf.results ts h=some v)(hk:K (.ok v) h):Aw P cf ts [] .returning h K:=by
 intro β w F cs fn hG hW hm hd ht hf hc;obtain⟨v',q1,q2⟩:=ahg hW ht hc hv;have hmode:F.mode=.returning:=by generalize F.mode=m at hm;cases hm;rfl
 have hdef:F.defers=[]:=CI
 exact⟨.ok v,h,β,w,F,.returned v',hk,hW,Eff.refl _ _ _ hW.dom,.ok q2,Steps.refl P _,rfl,rfl,hmode,hdef,fn,hf,q1⟩
def ahi(ch:ae PanicEntry)(hk:K (.iy ch) h):Aw P cf ts [] (.panicking ch) h K:=by
 intro β w F cs fn hG hW hm hd ht hf hc;have hdef:F.defers=[]:=CI
 cases hmo:F.mode with
 |run=>rw[hmo]at hm;cases hm
 |returning=>rw[hmo]at hm;cases hm
 |panicking ch'=>
  rw[hmo]at hm;cases hm with
  |panicking hp=>exact⟨.iy ch,h,β,w,F,.panicked ch',hk,hW,Eff.refl _ _ _ hW.dom,.iy hp,Steps.refl P _,rfl,rfl,hmo,hdef,fn,hf⟩
variable{m:FrameMode}
def MR.Yi{β:aQ}{m':FrameMode}(h:MR β m m')(hm:m≠.run):m'≠.run:=by
 cases h<;>simp at hm⊢
def ahj{args:Array ah}{ds:ae Deferred}(hm:m≠.run)(r:Nat)(hr:h.get r=some (.jJ true))(h1:Aw P cf ts ds m (h.set r (.jJ false)) K):
 Aw P cf ts ({target:=.collected r,args}::ds) m h K:=by
 intro β w F cs fn hG hW hmr hd ht hf hc;generalize hdd:F.defers=d at hd;cases hd with
 | @coll _ g _ a' _ ds' hb hl=>
   have ho:=hW.obj r g _ hb hr;have ho:w.heap[g.b]? =some (.deferred (some [])):=ho;have hlt:g.b<w.heap.size:=by
    grind
   obtain⟨z1,z2,z3⟩:=Ju hlt;obtain⟨y1,y2⟩:=hW.write hb hr (.jJ false) z1 z2 rfl rfl rfl (bG _) z3;have hrun:=MR.Yi hmr hm;have hstep:step P (lone F cs w)=.next (lone {F with defers:=ds'} cs (w.putObj g.b (.deferred none))):=by
    refine step_lone_go ?_;have ht:=run_takeDeferred (P:=P) ho;cases hmo:F.mode with
    |run=>exact absurd hmo hrun
    |returning=>simp[stepG,unwind,hmo,hdd,ht]
    |panicking ch=>simp[stepG,unwind,hmo,hdd,ht]
   obtain⟨rr,h',β',w',F1,r',q1,q2,q3,q4,q5,q6,q7,q8⟩:=h1 β (w.putObj g.b (.deferred none)) {F with defers:=ds'} cs fn hG y1 hmr hl ht hf hc;exact⟨rr,h',β',w',F1,r',q1,q2,y2.trans q3,q4,.head hstep q5,q6,q7,q8⟩
end
end Go.Ideal
namespace Go.Ideal
variable {P:Program}
variable{β:aQ}
def qP.dropWhile{l l':ae PanicEntry}(h:qP β l l'):qP β (l.dropWhile (!·.goexit)) (l'.dropWhile (!·.goexit)):=by
 induction h with
 |nil=>exact .nil
 | @cons e e' l l' hv hr hg hl ih=>
   simp only[List.dropWhile_cons,hg];cases e.goexit with
   |true=>exact .cons hv hr hg hl
   |false=>exact ih
variable{m mr:FrameMode}
def ahk(h:MR β m mr):MR β (Ci m) (settle mr):=by
 cases h with
 |run=>exact .run
 |returning=>exact .returning
 |panicking hp=>
  cases hp with
  |nil=>exact .panicking .nil
  | @cons e e' l l' hv hr hg hl=>
    obtain⟨ev,er,eg⟩:=e';cases her:e.recovered with
    |false=>
     subst hr;simp only[Ci,her,settle];exact .panicking (.cons hv her.symm hg hl)
    |true=>
     subst hr;simp only[Ci,her,settle];have hd:=hl.dropWhile;generalize l.dropWhile (!·.goexit)=x at hd;generalize l'.dropWhile (!·.goexit)=y at hd;cases hd with
     |nil=>exact .returning
     |cons a b c d=>exact .panicking (.cons a b c d)
def ahl(h:MR β m mr){ch ch':ae PanicEntry}(hc:qP β ch ch'):MR β (FY m ch) (raised mr ch'):=by
 cases h with
 |run=>exact .panicking hc
 |returning=>exact .panicking hc
 |panicking hp=>exact .panicking (hc.append hp)
def Yj{β':aQ}(hle:β.le β'){ts:T ah}{tm:Array ah}(h:∀i,VR β (dZ ts i) (tm.getD i undef)):∀i,VR β' (dZ ts i) (tm.getD i undef):=λi=>(h i).mono hle
variable{h:IH}{args:ae ah}
def ahm{cf:iJ}{ts:T ah}{K:jL->IH->Prop}{fn:Fn}{captured:ae ah}{ds:ae Deferred}(hm:m≠.run)(M:KR)(hc:ol P ⟨fn,args,captured,some m⟩ h M)
 (hpm:∀r pm h',M r pm h'->pm≠none) (hok:∀v m' h',M (.ok v) (some m') h'->Aw P cf ts ds (Ci m') h' K) (jM:∀ch m' h',M (.iy ch) (some m') h'->Aw P cf ts ds (FY m' ch) h' K):
 Aw P cf ts ({target:=.fn fn ⟨captured⟩,args:=⟨args⟩}::ds) m h K:=by
 intro β w F cs Yk hG hW hmr hd ht hf hcf;generalize hdd:F.defers=d at hd;cases hd with
 | @fn _ fn' _ c' _ a' _ ds' h1 h2 h3 hl=>
   obtain⟨nx,F0,n1,n2,n3⟩:=hc β w fn' a' c' hG hW h1 h3 h2;obtain⟨r,pm',h',β',w',r',cs1,q1,q2,q3,q4,q5,q6⟩:=n3 ({F with defers:=ds'}::cs) (by grind);cases q5 with
   |some _ m' _ _ mr Yl=>
   rcases q6 with⟨f,args',F1,e1,e2,e3,e4,e5⟩|⟨e1,_⟩
   .subst e1;simp only[entry,bC]at n2;subst n2;have hrun:=MR.Yi hmr hm;have hle:=q3.le hW.dom;have s1:=step_defer (cs:=cs) hrun hdd rfl n1;have hk:=e4;cases q4 with
    | @ok v v' hv=>
      have s2:=step_going_returned (c:={{F with defers:=ds'}with mode:=mr}) (cs:=cs) hk e5;obtain⟨rr,h2',β2,w2,F2,r2,p1,p2,p3,p4,p5,p6,p7,p8⟩:=hok v m' h' q1 β' w' {{F with defers:=ds'}with mode:=settle mr} cs Yk (hG.le hle) q2 (ahk Yl) (hl.mono hle) (Yj hle ht) hf hcf;exact lR
    | @iy ch ch' hch=>
      have s2:=step_going_panicked (c:={{F with defers:=ds'}with mode:=mr}) (cs:=cs) e5;obtain⟨rr,h2',β2,w2,F2,r2,p1,p2,p3,p4,p5,p6,p7,p8⟩:=jM ch m' h' q1 β' w' {{F with defers:=ds'}with mode:=raised mr ch'} cs Yk (hG.le hle) q2 (ahl Yl hch) (hl.mono hle) (Yj hle ht) hf hcf;exact lR
   .cases e1.1
variable{q:ji}
def JG{K:KR}(M:KR)(hc:ol P q h M)(hk:∀r pm h',M r pm h'->K r pm h'):ol P q h K:=by
 intro β w fn' args' cap' hG hW hf ha hcap;obtain⟨nx,F0,n1,n2,n3⟩:=hc β w fn' args' cap' hG hW hf ha hcap;refine⟨nx,F0,n1,n2,λcs0 hcs=>?_⟩;obtain⟨r,pm',h',β',w',r',cs1,q1,q2,q3,q4,q5,q6⟩:=n3 cs0 hcs
 grind
variable{f:gy}
def M5{t:aM}{v:ah}{name:String}{r:ah}(h:FZ P t v name=some (f,r)):r=v/\∀(n:Nat) (v':ah) (w:World),(method (n+1) t v' name).run P w=.ok (f,v') w:=by
 unfold FZ at h;split at h
 .cases h
 .rename_i info hi;split at h
  .cases h
  .rename_i m hm;split at h
   .cases h
   .have hp0:m.path= #[]:=(by grind)
    split at h
    .rename_i f0 ptr hfn;have Ym:∀(v':ah) (w:World),(follow m.path.toList t (.val v')).run P w=.ok (t,.val v') w:=λv' w=>by rw[hp0];rfl
     split at h
     .rename_i e hu;obtain⟨rfl,rfl⟩:=h;refine⟨rfl,λn v' w=>?_⟩;simp only[method,dY,Ji hi,eZ,hm,Ym,hfn,receiverAt,gY hu,Place.get,fZ]
     .cases h
     .rename_i d Yn hu;obtain⟨rfl,rfl⟩:=h;refine⟨rfl,λn v' w=>?_⟩;simp only[method,dY,Ji hi,eZ,hm,Ym,hfn,receiverAt,gY hu];cases d<;>first|rfl|exact absurd rfl (Yn _)
     .cases h
    .cases h
def JH(ht:target P q=some (f,args)){β:aQ}{fn':Fn}{args' cap':ae ah}(hf:FR β q.fn fn')(ha:bB β q.args args')(hc:bB β q.captured cap'){fn:Func}(hfn:P.funcs[f]? =some fn){body:Code}(hb:fn.body=some body)
 (hname:fn.name≠ "runtime.NumGoroutine") (w:World):∃kU,(invoke (.fn fn' ⟨cap'⟩) ⟨args'⟩).run P w=.ok (.enter f ⟨kU⟩) w/\bB β args kU:=by
 have hcall:∀(xs:Array ah),(callFunc f xs).run P w=.ok (.enter f xs) w:=λxs=>by
  exact ii
 have auJ:∀(t:aM) (v v' r:ah) (name:String) (xs:ae ah),FZ P t v name=some (f,r)->(callMethod (.iface t v') name ⟨xs⟩).run P w=.ok (.enter f ⟨v'::xs⟩) w:=λt v v' r name xs hm=>by
  obtain⟨_,h2⟩:=M5 hm;have hd:P.types.size+Made.depth=(P.types.size+(Made.depth - 1))+1:=rfl;have he:(#[v']:Array ah)++(⟨xs⟩:Array ah)=⟨v'::xs⟩:=uc
  simp only[callMethod,dY,run_program,eZ,hd,h2,he];exact hcall _
 unfold target at ht;cases R3:q.fn with
 |func f0=>
  rw[R3]at ht hf;simp only[bC,lQ]at ht;obtain⟨rfl,rfl⟩:=ht;cases hf;refine⟨args'++cap',?_,by rw[kR];exact ha.append hc⟩;have:(⟨args'⟩:Array ah)++(⟨cap'⟩:Array ah)=⟨args'++cap'⟩:=uc
  simp only[invoke,this];exact hcall _
 |method name=>
  rw[R3]at ht hf;simp only at ht;cases hf;split at ht
  .rename_i t v as R4;split at ht
   .rename_i f1 r hm;simp only[bC,lQ]at ht;obtain⟨rfl,rfl⟩:=ht;rw[R4]at ha;cases ha with
    | @cons _ x' _ as' hv hl=>
      obtain⟨v',hv',rfl⟩:=hv.Ei;obtain⟨rfl,_⟩:=M5 hm;refine⟨v'::as',?_,.cons hv' hl⟩;have h0:(⟨Value.iface t v'::as'⟩:Array ah)[0]? =some (.iface t v'):=rfl;have h1:(⟨Value.iface t v'::as'⟩:Array ah).extract 1 (⟨Value.iface t v'::as'⟩:Array ah).size=⟨as'⟩:=by grind
      simp only[invoke,h0,h1]
      grind
   .cases ht
  .cases ht
 |methodOf t name=>
  rw[R3]at ht hf;simp only at ht;cases hf;split at ht
  .rename_i x as R4;rw[R4]at ha;cases ha with
   | @cons _ x' _ as' hv hl=>
     have h0:(⟨x'::as'⟩:Array ah)[0]? =some x':=rfl;have h1:(⟨x'::as'⟩:Array ah).extract 1 (⟨x'::as'⟩:Array ah).size=⟨as'⟩:=by grind
     split at ht
     .rename_i ms hu;split at ht
      .rename_i t2 v;split at ht
       .rename_i f1 r hm;simp only[bC,lQ]at ht;obtain⟨rfl,rfl⟩:=ht;obtain⟨v',hv',rfl⟩:=hv.Ei;obtain⟨rfl,_⟩:=M5 hm;refine⟨v'::as',?_,.cons hv' hl⟩;simp only[invoke,h0,h1,dY,gY hu,eZ]
        grind
       .cases ht
      .cases ht
     .rename_i d hni hu;split at ht
      .rename_i f1 r hm;simp only[bC,lQ]at ht;obtain⟨rfl,rfl⟩:=ht;obtain⟨rfl,_⟩:=M5 hm;refine⟨x'::as',?_,.cons hv hl⟩;simp only[invoke,h0,h1,dY,gY hu,eZ]
       grind
      .cases ht
     .cases ht
  .cases ht
 |via t p f0 b=>grind
 |yield l=>grind
end Go.Ideal
namespace Go.Ideal
variable {P:Program}
def ahn(v:ah)(l:ae ah)(i:Nat)(t:T ah):Al (v::l) i t=Al l (i+1) (t.set i (some v)):=rfl
def Yo:∀(l:ae ah) (i:Nat) (t:T ah) (j:Nat),dZ (Al l i t) j=if i<=j/\j<i+l.length then l.getD (j - i) eY else dZ t j:=by
 intro l;induction l with
 |nil=>intro i t j;rw[if_neg s7];rfl
 |cons v l ih=>
  intro i t j;rw[ahn,ih,F6]
  grind
def Yp(a b:Nat):uz a b=max a b:=by
 unfold uz;cases hb:Nat.ble a b with
 |true=>have:=pQ hb;show b=_;omega
 |false=>
  have:¬a<=b:=λhh=>by rw[LZ hh]at hb;cases hb
  show a=_;omega
def aho{β:aQ}{n:Nat}{args kU:ae ah}(h:bB β args kU)(pm:az FrameMode):AR β none' (Ea n args pm) ((⟨kU⟩:Array ah)++Array.replicate (n - kU.length) undef) []:=by
 have hlen:=h.length;refine⟨?_,λi _=>?_,λi hi=>?_,.nil⟩
 .show _=uz n (jv args);rw[Yp,xX];simp;omega
 .show VR β (dZ (Al args 0 .leaf) i) _;rw[Yo];by_cases hi:i<args.length
  .rw[if_pos ⟨s6,s6⟩];obtain⟨v',h1,h2⟩:=h.get (bN hi);have e1:args.getD (i - 0) eY=args[i]:=by simp[hi]
   rw[e1,Ac,Array.getElem?_append_left th];have:(⟨kU⟩:Array ah)[i]? =some v':=tG
   rw[this];exact h2
  .rw[if_neg s6];exact .eY _
 .show dZ (Al args 0 .leaf) i=eY;have:uz n (jv args)<=i:=hi;rw[Yp,xX]at this;rw[Yo,if_neg s6];rfl
def ahp{q:ji}{h:IH}{K:KR}(f:gy)(args:ae ah)(ht:target P q=some (f,args))(fn:Func)(hf:P.funcs[f]? =some fn)(cf:iJ)(hcf:xU P fn=some cf)(M:KO)(h1:nN P cf.body (Ea cf.ntmps args q.pm) h M)
 (h2:∀o a' h',M o a' h'->wW o≠none) (h3:∀o a' h' m,M o a' h'->wW o=some m->Aw P cf a'.tmps a'.defers m h' λr h''=>K r a'.pm h''):ol P q h K:=by
 intro β w fn' args' cap' hG hW hfr ha hcap;have ahq:=hcf;unfold xU at hcf;split at hcf
 .rename_i body rs hb hrs;split at hcf
  .cases hcf
  rename_i hname;simp only[bC]at hcf;subst hcf;obtain⟨kU,t1,t2⟩:=JH ht hfr ha hcap hf hb hname w;refine⟨_,Frame.enter P f ⟨kU⟩ (kindOf q.pm),t1,rfl,λcs0 AB=>?_⟩;let b:={(default:Frame)with fn:=f,kind:=kindOf q.pm}
  have hent:Frame.enter P f ⟨kU⟩ (kindOf q.pm)=fr b ((⟨kU⟩)++Array.replicate (fn.ntmps - kU.length) undef) [] [.code body]:=by
   simp[Frame.enter,hf,hb,b];rfl
  have hcx:CX P β q.pm none b cs0:=⟨⟨fn,hf⟩,.inl ⟨rfl,rfl⟩,rfl,AB⟩
  obtain⟨o,a',h',β',w',tm',iF,cs',q1,q2,q3,q4,q5,q6,q7⟩:=h1 body _ rfl (.inl rfl) β w b _ [] [] cs0 hG hW (aho t2 q.pm) hcx;rw[<- hent]at q7;have hle:=q3.le hW.dom;have leave:∀(m:FrameMode) (F:Frame),wW o=some m->MR β' m F.mode->F.defers=iF->F.tmps=tm'->F.fn=f->F.kind=kindOf q.pm->Steps P (lone (Frame.enter P f ⟨kU⟩ (kindOf q.pm)) cs0 w) (lone F cs' w')->
   ∃r pm' h' β' w' r' cs1,K r pm' h'/\WR P β' h' w'/\Eff β h w β' h' w'/\RR β' r r'/\qx β' q.pm pm' cs0 cs1/\
   ((∃f1 ahr F1,Next.enter f ⟨kU⟩=.enter f1 ahr/\Steps P (lone (Frame.enter P f ⟨kU⟩ (kindOf q.pm)) cs0 w) (lone F1 cs1 w')/\F1.fn=f1/\F1.kind=kindOf q.pm/\F1.going P w' r')\/
    ((q.pm=none/\∃l,q.fn=.yield l)/\∀c rest,cs1=c::rest->Steps P (lone (Frame.enter P f ⟨kU⟩ (kindOf q.pm)) cs0 w) (lone (recv c r') rest w'))):=by
   intro m F hm hmr hdf htm hfn hkd hst;obtain⟨r,h2',β2,w2,F1,r',p1,p2,p3,p4,p5,p6,p7,p8⟩:=h3 o a' h' m q1 hm β' w' F cs' fn (hG.le hle) q2 hmr (by rw[hdf];exact q4.defers) (λi=>by rw[htm];exact q4.tmps i λhh=>hh) (by rw[hfn];exact hf) ahq;exact⟨r,a'.pm,h2',β2,w2,r',cs',p1,p2,q3.trans p3,p4,q5.mono (p3.le q2.dom),.inl ⟨f,⟨kU⟩,F1,rfl,hst.trans p5,by rw[p7,hfn],by rw[p6,hkd],p8⟩⟩
  cases o with
  |normal=>exact leave .returning {fr b tm' iF []with mode:=.returning} rfl .returning rfl rfl rfl rfl (Steps.trans q7 (.one (agc rfl)))
  |exit id=>exact absurd rfl (h2 _ _ _ q1)
  |ret=>
   obtain⟨todo,e2⟩:=q7;exact leave .returning {fr b tm' iF (.code .ret::todo)with mode:=.returning} rfl .returning rfl rfl rfl rfl (Steps.trans e2 (.one (agb rfl)))
  |panic ch=>
   obtain⟨todo,ch',e1,e2⟩:=q7;exact leave (.panicking ch) {fr b tm' iF todo with mode:=.panicking ch'} rfl (.panicking e1) rfl rfl rfl rfl e2
 .cases hcf
end Go.Ideal
namespace Go.Ideal
variable {P:Program}
mutual
def VR.restrict{β β':aQ}(hle:β.le β'):∀{v v0 v':ah},VR β v v0->VR β' v v'->VR β v v'
 |_,_,_,.eY _,_=>.eY _
 |_,_,_,.skip,k=>by cases k;exact .skip
 |_,_,_,.bool _,k=>by cases k;exact .bool _
 |_,_,_,.int _ _,k=>by cases k;exact .int _ _
 |_,_,_,.float _ _,k=>by cases k;exact .float _ _
 |_,_,_,.complex _ _ _,k=>by cases k;exact .complex _ _ _
 |_,_,_,.string _,k=>by cases k;exact .string _
 |_,_,_,.nilFunc,k=>by cases k;exact .nilFunc
 |_,_,_,.nilIface,k=>by cases k;exact .nilIface
 |_,_,_,.Ck,k=>by cases k;exact .Ck
 |_,_,_,.ptr hi,k=>by
  obtain⟨g,h1,rfl⟩:=k.x9;rw[hle _ _ hi]at h1;cases h1;exact .ptr hi
 |_,_,_,.sl0 _ _,k=>by cases k;exact .sl0 _ _
 |_,_,_,.aA hi hb hn ha,k=>by
  obtain⟨g,a,c',q1,rfl,q3,q4,q5,q6,q7,q8⟩:=k.oK;rw[hle _ _ hi]at q1;cases q1;rcases q8 with⟨_,rfl⟩|⟨q8,r1,_,_⟩
  .exact .aA hi q3 q5 q7
  grind
 |_,_,_,.qN hi hb hs hn hz hl ht hc ha,k=>by
  obtain⟨g,a,c',q1,rfl,q3,q4,q5,q6,q7,q8⟩:=k.oK;rw[hle _ _ hi]at q1;cases q1;rcases q8 with⟨q8,_⟩|⟨_,_,r2,r3,r4⟩
  .grind
  .exact .qN hi q3 r4 q5 hz r2 r3 q6 (q7.imp id (·.1))
 |_,_,_,.Aq,k=>by cases k;exact .Aq
 |_,_,_,.map hi,k=>by
  obtain⟨g,h1,rfl⟩:=k.Gd;rw[hle _ _ hi]at h1;cases h1;exact .map hi
 |_,_,_,.func hf h1 h2,k=>by
  obtain⟨fn',f',c',k1,k2,k3,rfl⟩:=k.Cn;refine .func ?_ (bB.restrict hle h1 k2) (bB.restrict hle h2 k3);cases hf with
  |func f=>cases k1;exact .func f
  |method n=>cases k1;exact .method n
  |methodOf t n=>cases k1;exact .methodOf t n
  |yield hl=>cases k1 with|yield hl'=>rw[hle _ _ hl]at hl';cases hl';exact .yield hl
 |_,_,_,.iface t hv,k=>by
  obtain⟨u',k1,rfl⟩:=k.Ei;exact .iface t (VR.restrict hle hv k1)
 |_,_,_,.agg hc hl,k=>by
  obtain⟨l',k1,_,rfl⟩:=k.Q9;exact .agg hc (bB.restrict hle hl k1)
 |_,_,_,.tuple hl,k=>by
  cases k with
  |eY=>cases hl;exact .eY _
  |tuple k1=>exact .tuple (bB.restrict hle hl k1)
def bB.restrict{β β':aQ}(hle:β.le β'):∀{v v0 v':ae ah},bB β v v0->bB β' v v'->bB β v v'
 |_,_,_,.nil,k=>by cases k;exact .nil
 |_,_,_,.cons hv hl,k=>by
  cases k with
  |cons k1 k2=>exact .cons (VR.restrict hle hv k1) (bB.restrict hle hl k2)
end
def iC.restrict{β β':aQ}(hle:β.le β'){l l0 l':ae MapEntry}(h:iC β l l0)(k:iC β' l l'):iC β l l':=by
 induction h generalizing l' with
 |nil=>cases k;exact .nil
 |cons hk hf hb hv hl ih=>
  cases k with
  |cons hk' hf' hb' hv' hl'=>exact .cons hk' hf' hb' (hv.restrict hle hv') (ih hl')
def OR.restrict{β β':aQ}(hle:β.le β'){g:jk}{w w':World}{o:fw}(h:OR P β g w o)(k:OR P β' g w' o):OR P β g w' o:=by
 cases o with
 |cells cs=>
  obtain⟨_,_,_,_,_,a7⟩:=h;obtain⟨b1,b2,b3,b5,b6,b7⟩:=k;refine⟨b1,b2,b3,b5,b6,λj v hj=>?_⟩;exact mC
 |lD cs=>
  obtain⟨_,_,_,a7⟩:=h;obtain⟨b1,b2,b6,b7⟩:=k;refine⟨b1,b2,b6,λj v hj=>?_⟩;exact mC
 |map es clock=>
  obtain⟨es0,_,h0⟩:=h;obtain⟨es',h1,h2⟩:=k;exact⟨es',h1,h0.restrict hle h2⟩
 |D6 s pos=>exact k
 |mapIter m since seen stepped=>
  obtain⟨m0,s0,_,_,h0,_⟩:=h;obtain⟨m',s',h1,h2,h3,h4⟩:=k;exact⟨m',s',h1,h2,h0.restrict hle h3,h4⟩
 |loop r=>
  obtain⟨r0,_,h0⟩:=h;obtain⟨r',h1,h2⟩:=k;obtain⟨g0,e1,_⟩:=h0.defers;obtain⟨g1,e2,e3⟩:=h2.defers;rw[hle _ _ e1]at e2;cases e2;exact⟨r',h1,⟨h2.state,h2.pending,h2.Jh,h2.size,λi=>(h0.tmps i).restrict hle (h2.tmps i),h2.out,h2.params,h2.assign,h2.body,⟨_,e1,e3⟩,h2.F7⟩⟩
 |jJ b=>exact k
def WR.low{β:aQ}{h:IH}{w:World}(hW:WR P β h w)(n:Nat):WR P β {h with low:=n} w:=⟨hW.dom,hW.live,hW.obj,hW.inj⟩
def aht{q:ji}{h:IH}{K:KR}(cs:ae ah)(n f:Nat)(hcs:iY cs=true)(hne:cs≠[])(hf:f=0\/cs.length=n*f)(M:KR)(hc:ol P q {h with low:=h.next} M)(hq:q.pm=none)
 (h1:∀r pm h',M r pm h'->pm=none/\h'.low=h.next/\∃i o c,r=.ok (.slice (some ⟨i,o,some f⟩) n c)/\h.next<=i/\(f=0->c=n)/\h'.kL i o cs.length=some cs)
 (hk:K (.ok (.slice (some ⟨h.next,0,some f⟩) n n)) none (h.new (.cells cs))):ol P q h K:=by
 intro β w fn' args' cap' hG hW hfr ha hcap;obtain⟨nx,F0,n1,n2,n3⟩:=hc β w fn' args' cap' hG (hW.low _) hfr ha hcap;refine⟨nx,F0,n1,n2,λcs0 AB=>?_⟩;obtain⟨r,pm',h',β',w',r',cs1,q1,q2,q3,q4,q5,q6⟩:=n3 cs0 AB;obtain⟨hpm,hlow,i,o,c,rfl,hi,hfc,hcells⟩:=h1 r pm' h' q1;subst hpm;cases q4 with
 | @ok v v' hv=>
   obtain⟨g,a,c',hg,hv',ha1,ha2,hn,hcc,hoff,hkind⟩:=hv.oK;obtain⟨cells,hget,htake⟩:=Xx hcells;rw[qM,qw]at htake;split at htake
   .rename_i hle;simp only[bC]at htake;obtain⟨o1,o2,o3,o5,o6,o7⟩:=q2.obj i g _ hg hget;let g1:jk:=⟨g.b,g.off+o,cs.length,g.top,g.sz⟩
    let β2:aQ:=λj=>if j<h.next then β j else if j=h.next then some g1 else none
    have hb2:∀j k,β2 j=some k->(j<h.next/\β j=some k/\β' j=some k)\/(j=h.next/\k=g1):=λj k hk=>by
     simp only[β2]at hk;split at hk
     .rename_i hj;exact .inl ⟨hj,hk,(q3.agree j hj).trans hk⟩
     grind
    have hold:∀j,j<h.next->h'.get j=h.get j:=λj hj=>q3.kept j (by rw[hlow];exact hj) hj
    have hnew:∀j,(h.new (.cells cs)).get j=if j=h.next then some (.cells cs)else h.get j:=λj=>IH.jD _ _ _
    have hle2:β.le β2:=λj k hk=>by
     have:=hW.dom j k hk
     grind
    have Yq:∀(j:Nat) v,cs[j]? =some v->dQ v=true:=λj v hj=>by
     have:∀(l:ae ah),iY l=true->∀v∈l,dQ v=true:=by
      intro l;induction l with
      |nil=>grind
      |cons x l ih=>
       intro hl v hv;simp[iY]at hl
       grind
     exact this cs hcs v (by grind)
    have ahu:∀(j:Nat) v,cs[j]? =some v->w'.cell? ⟨g.b,g.off+o+j,none⟩=some v:=λj v hj=>by
     have hj2:cells[o+j]? =some v:=by
      grind
     obtain⟨v',t1,t2⟩:=o7 (o+j) v hj2;rw[t2.sQ (Yq j v hj)]at t1
     grind
    have hlen:o+cs.length<=cells.length:=by
     simp at hle;have h0:0<cs.length:=(by grind)
     omega
    have hOR:OR P β2 g1 w' (.cells cs):=⟨o1,rfl,by grind,o5,xY hcs,λj v hj=>⟨v,ahu j v hj,VR.free (Yq j v hj)⟩⟩
    have hW2:WR P β2 (h.new (.cells cs)) w':=by
     refine⟨?_,?_,?_,?_⟩
     .intro j k hk;show j<h.next+1
      grind
     .intro j x hx;show j<h.next+1
      rw[hnew]at hx;split at hx
      .omega
      .have:=hW.live j x hx;omega
     .intro j k x hk hx;rw[hnew]at hx;rcases hb2 j k hk with⟨hj,hb,hb'⟩|⟨hj,rfl⟩
      .rw[if_neg s6]at hx;have hx':h'.get j=some x:=by grind
       exact((hW.obj j k x hb hx).restrict (q3.le hW.dom) (q2.obj j k x hb' hx')).mono hle2
      grind
     .intro j l k m hk hm hj hl hr he;rw[hnew]at hj hl;rcases hb2 j k hk with⟨hjn,_,hb'⟩|⟨hjn,rfl⟩
      .rw[if_neg s6]at hj;rcases hb2 l m hm with⟨hln,_,R5⟩|⟨hln,rfl⟩
       .rw[if_neg s6]at hl;exact q2.inj j l k m hb' R5 (by grind) (by grind) (by grind) he
       .have:=q2.inj j i k g hb' hg (by grind) AH (by grind) he;omega
      .rcases hb2 l m hm with⟨hln,_,R5⟩|⟨hln,rfl⟩
       .rw[if_neg s6]at hl;have:=q2.inj l i m g R5 hg (by grind) AH (by grind) he.symm;omega
       .omega
    have Yr:β2 h.next=some g1:=by grind
    have hE:Eff β h w β2 (h.new (.cells cs)) w':=
     {agree:=(by grind)
      next:=FB _
      alive:=(by grind)
      hid:=(by grind)
      low:=bG _
      kept:=(by grind)
      os:=q3.os,tape:=q3.tape,output:=q3.output,drawn:=q3.drawn,size:=q3.size,keep:=q3.keep
      vO:=λj k _ hj hk hn hb=>q3.vO j k (by rw[hlow];exact hj) hj hk hn hb
      fresh:=λj k hk hj=>by
       rcases hb2 j k hk with⟨hjn,_⟩|⟨_,rfl⟩
       .omega
       .exact q3.fresh i g hg hi}
    have hVR:VR β2 (.slice (some ⟨h.next,0,some f⟩) n n) v':=by
     subst hv';rcases hkind with⟨e1,e2⟩|⟨e1,e2,e3,e4,e5⟩
     .simp only[bC]at e1;have:=hfc e1;subst e1 e2 this;exact .aA Yr ha1 (bG _) (by
       grind)
     .simp only[bC]at e1;subst e1;have hcl:cs.length=n*g.sz:=(by grind)
      exact .qN (g:=g1) Yr ha1 e5 (bG _) e2 (by grind) (by grind) (lZ hn hcc) (by
       grind)
    exact⟨_,none,_,β2,w',.returned v',cs1,hk,hW2,hE,.ok hVR,by rw[hq]at q5⊢;cases q5;exact .none _,by
     grind⟩
   .cases htake
end Go.Ideal
namespace Go.Ideal
variable {P:Program}
def ahw{β:aQ}{n:Nat}:∀(ps:ae Tmp) (args kU:ae ah) (t:T ah) (tm:Array ah),args.length=ps.length->bB β args kU->tm.size=n->(∀i,VR β (dZ t i) (tm.getD i undef))->(∀i,n<=i->dZ t i=eY)->
 (((ps.zip kU).foldl (λtmps (x:Tmp×ah)=>tmps.setIfInBounds x.1 x.2) tm).size=n/\(∀i,VR β (dZ (Cj n ps args t) i) (((ps.zip kU).foldl (λtmps (x:Tmp×ah)=>tmps.setIfInBounds x.1 x.2) tm).getD i undef))/\∀i,n<=i->dZ (Cj n ps args t) i=eY):=by
 intro ps;induction ps with
 |nil=>
  intro args kU t tm hl ha hs hv ho;cases args with
  |nil=>exact⟨hs,hv,ho⟩
  |cons v args=>simp at hl
 |cons p ps ih=>
  intro args kU t tm hl ha hs hv ho;cases args with
  |nil=>simp at hl
  |cons v args=>
   cases ha with
   | @cons _ v' _ kU h1 h2=>
     refine ih args kU _ (tm.setIfInBounds p v') (by simpa using hl) h2 (by simpa using hs) (λi=>?_) (λi hi=>?_)
     .cases hb:Nat.blt p n with
      |true=>
       have hlt: @LT.lt Nat _ p n:=tI
       simp only[cond_true];rw[F6,MQ tm p v' i s6]
       grind
      |false=>
       have hge:n<=p:=by
        rcases L9 p n with hh|hh
        .have:Nat.blt p n=true:=by simpa[wN]using hh
         grind
        .exact hh
       grind
     .cases hb:Nat.blt p n with
      |true=>
       have hlt: @LT.lt Nat _ p n:=tI
       simp only[cond_true];rw[F6,if_neg s6];exact ho i hi
      |false=>exact ho i hi
section
variable {b:Frame} {tm:Array ah} {df:ae Deferred} {k:ae Item} {cs:ae Frame} {w:World}
variable{l:Nat}{r:Loop}
def ahx(hb:b.roundOf=some l)(h:w.heap[l]? =some (.loop r))(hr:r.state=.ready):
 step P (lone (fr b tm df (.beginRound::k)) cs w)=.next (lone (fr b tm df k) cs (w.putObj l (.loop {r with state:=.busy}))):=by
 have h1:=run_beginRound (P:=P) h hr;refine step_lone_go ?_;simp[stepG,stepG.exec,fr,hb,stepG.apply,h1,Frame.finish]
def ahy{todo:ae Item}(hb:b.roundOf=some l)(hk:b.kind=.normal)(h:w.heap[l]? =some (.loop r))(jump:az Code)
 (ht:(todo=[]/\jump=none)\/(∃t,todo=.code .ret::t/\jump=some .ret)\/∃id t,todo=.code (.exit id)::t/\exitTo id t=none/\jump=some (.exit id)) (c:Frame):
 step P (lone (fr b tm df todo) (c::cs) w)=.next (lone (c.finish (.bool jump.isNone)) cs (w.putObj l (.loop {r with state:=if jump.isNone then .ready else .done,pending:=jump}))):=by
 have h1:=run_endRound (P:=P) jump h;refine step_lone_go ?_;rcases ht with⟨rfl,rfl⟩|⟨t,rfl,rfl⟩|⟨id,t,rfl,he,rfl⟩
 .simp[stepG,stepG.exec,fr,hb,h1,doReturn,hk]
 .simp[stepG,stepG.exec,fr,hb,h1,doReturn,hk]
 .simp[stepG,stepG.exec,fr,hb,h1,doReturn,hk,he]
end
end Go.Ideal
namespace Go.Ideal
variable {P:Program}
def R6{w:World}{l:Nat}{o:Obj}(hl:l<w.heap.size):(w.putObj l o).heap.size=w.heap.size/\(∀b,b≠l->(w.putObj l o).heap[b]? =w.heap[b]?)/\(w.putObj l o).heap[l]? =some o:=Ju hl
def ahz{q:ji}{h:IH}{K:KR}(l:Nat)(hq:q.fn=.yield l)(hpm:q.pm=none)(r:nJ)(hr:h.get l=some (.loop r))(hargs:q.args.length=r.params.length)
 (M:KO) (h1:nN P r.assign {n:=r.n,tmps:=Cj r.n r.params q.args r.tmps,defers:=[],pm:=none,ro:=some l} h M)
 (h2:∀o a' h',M o a' h'->o=.normal/\∃r1,h'.get l=some (.loop r1)/\r1.state=.ready)
 (h3:∀a' h' r1,M .normal a' h'->h'.get l=some (.loop r1)->nN P r.body a' (h'.set l (.loop {r1 with state:=.busy})) λo a'' h''=>∃r2,h''.get l=some (.loop r2)/\a''.defers=[]/\
   match o with
   | .panic ch=>K (.iy ch) none h''
   | .normal=>K (.ok (.bool true)) none (h''.set l (.loop {r2 with state:=.ready,pending:=none}))
   |o=>K (.ok (.bool false)) none (h''.set l (.loop {r2 with state:=.done,pending:=some o}))):ol P q h K:=by
 intro β w fn' args' cap' hG hW hfr ha hcap;rw[hq]at hfr;cases hfr with
 | @yield _ g hg=>
 obtain⟨r',o1,L⟩:=hW.obj l g _ hg hr;have hsz:(⟨args'⟩:Array ah).size=r'.params.size:=by
  have e1:args'.length=q.args.length:=ha.length;have e2:r'.params.size=r.params.length:=by rw[<- L.params];simp
  grind
 refine⟨_,_,by
  show(Instr.yield g.b ⟨args'⟩).run P w=_;exact run_yield o1 hsz,rfl,λcs0 _=>?_⟩
 rw[hpm];have Rc:(r'.params.zip (⟨args'⟩:Array ah)).foldl (λtmps (x:Tmp×ah)=>tmps.setIfInBounds x.1 x.2) r'.tmps=(r.params.zip args').foldl (λtmps (x:Tmp×ah)=>tmps.setIfInBounds x.1 x.2) r'.tmps:=by
  rw[<- Array.foldl_toList,Array.toList_zip,L.params]
 obtain⟨t1,t2,t3⟩:=ahw (β:=β) (n:=r.n) r.params q.args args' r.tmps r'.tmps hargs ha L.size L.tmps L.out;rw[<- Rc]at t1 t2;let b:Frame:={(default:Frame)with fn:=r'.fn,kind:=.normal,roundOf:=some g.b}
 have hcx:CX P β none (some l) b cs0:=⟨L.F7,(by grind),rfl,λm hm=>by cases hm⟩
 have hA:AR β none' {n:=r.n,tmps:=Cj r.n r.params q.args r.tmps,defers:=[],pm:=none,ro:=some l} ((r'.params.zip (⟨args'⟩:Array ah)).foldl (λtmps (x:Tmp×ah)=>tmps.setIfInBounds x.1 x.2) r'.tmps) []:=
  ⟨t1,λi _=>t2 i,t3,.nil⟩
 obtain⟨o,a',h',β',w',tm',iF,cs',q1,q2,q3,q4,q5,q6,q7⟩:=h1 r'.assign _ L.assign (.inl rfl) β w b _ [] [.beginRound,.code r'.body] cs0 hG hW hA hcx;obtain⟨rfl,r1,hr1,hst⟩:=h2 o a' h' q1;have hle:=q3.le hW.dom;have hg':=hle _ _ hg;obtain⟨r1',o2,L1⟩:=q2.obj l g _ hg' hr1;have hlt1:g.b<w'.heap.size:=by
  grind
 obtain⟨z1,z2,z3⟩:=R6 (w:=w') (o:=.loop {r1' with state:=.busy}) hlt1;obtain⟨y1,y2⟩:=q2.write hg' hr1 (.loop {r1 with state:=.busy}) z1 z2 rfl rfl rfl (bG _) ⟨_,z3,{L1 with state:=rfl}⟩;have R7:a'.pm=none:=by
  have h5:=q5;generalize a'.pm=x at h5;cases h5;rfl
 have s1:Steps P (lone (Frame.round g.b r'.fn ((r'.params.zip (⟨args'⟩:Array ah)).foldl (λtmps (x:Tmp×ah)=>tmps.setIfInBounds x.1 x.2) r'.tmps) r'.assign r'.body .normal) cs0 w) (lone (fr b tm' iF [.code r'.body]) cs' (w'.putObj g.b (.loop {r1' with state:=.busy}))):=by
  refine Steps.trans q7 (.one (ahx rfl o2 (by rw[L1.state];exact hst)))
 have hcs':cs'=cs0:=by
  have h5:=q5;rw[R7]at h5;cases h5;rfl
 subst hcs';have ahA:CX P β' a'.pm a'.ro b cs':=by
  rw[R7,q6];exact⟨L.F7,(by grind),rfl,λm hm=>by cases hm⟩
 obtain⟨Yt,a2,h4,β2,w2,Yu,df2,cs2,p1,p2,p3,p4,p5,p6,p7⟩:=h3 a' h' r1 q1 hr1 r'.body _ L.body (.inl rfl) β' _ b tm' iF [] cs' (hG.le hle) y1 q4 ahA;obtain⟨r2,hr2,hdf,hK⟩:=p1;have hle2:=p3.le y1.dom;have hg2:=hle2 _ _ hg';have hcs2:cs2=cs'/\a2.pm=none:=by
  have h5:=p5;rw[R7]at h5;generalize a2.pm=x at h5;cases h5;exact⟨rfl,rfl⟩
 obtain⟨rfl,auL⟩:=hcs2;obtain⟨r2',o3,L2⟩:=p2.obj l g _ hg2 hr2;have hlt2:g.b<w2.heap.size:=by
  grind
 have ahB:df2=[]:=by
  have h5:=p4.defers;rw[hdf]at h5;cases h5;rfl
 have hE:Eff β h w β2 h4 w2:=(q3.trans y2).trans p3;by_cases jM:∃ch,Yt=.panic ch
 .obtain⟨ch,rfl⟩:=jM;obtain⟨todo,ch',e1,e2⟩:=p7;refine⟨.iy ch,none,h4,β2,w2,.panicked ch',cs2,hK,p2,hE,.iy e1,.none _,.inr ⟨⟨rfl,l,hq⟩,λc rest hc=>?_⟩⟩;subst hc;refine(s1.trans e2).trans (.one ?_);obtain⟨fn,hfn⟩:=L.F7;subst ahB;exact step_leave_panicked ⟨rfl,rfl,fn,hfn⟩
 .have key:∃(jump:az Code) (out:az Out) (todo:ae Item),jump=out.bind Xu/\(∀ch,out≠some (.panic ch))/\jump.isNone=out.isNone/\
   ((todo=[]/\jump=none)\/(∃t,todo=.code .ret::t/\jump=some .ret)\/∃id t,todo=.code (.exit id)::t/\exitTo id t=none/\jump=some (.exit id))/\
   Steps P (lone (fr b tm' iF [.code r'.body]) cs2 (w'.putObj g.b (.loop {r1' with state:=.busy}))) (lone (fr b Yu df2 todo) cs2 w2)/\
   K (.ok (.bool out.isNone)) none (h4.set l (.loop {r2 with state:=if out.isNone then .ready else .done,pending:=out})):=by
   cases Yt with
   |panic ch=>grind
   |normal=>exact⟨none,none,[],rfl,s7,rfl,.inl ⟨rfl,rfl⟩,p7,hK⟩
   |exit id=>
    obtain⟨todo,e1,e2⟩:=p7;exact⟨some (.exit id),some (.exit id),_,rfl,s7,rfl,.inr (.inr ⟨id,todo,rfl,e1,rfl⟩),e2,hK⟩
   |ret=>
    obtain⟨todo,e2⟩:=p7;exact⟨some .ret,some .ret,_,rfl,s7,rfl,(by grind),e2,hK⟩
  obtain⟨jump,out,todo,k1,k2,k3,k4,k5,k6⟩:=key;obtain⟨x1,x2,x3⟩:=R6 (w:=w2) (o:=.loop {r2' with state:=if jump.isNone then .ready else .done,pending:=jump}) hlt2;obtain⟨u1,u2⟩:=p2.write hg2 hr2 (.loop {r2 with state:=if out.isNone then .ready else .done,pending:=out}) x1 x2 rfl rfl rfl (bG _) ⟨_,x3,{L2 with state:=by rw[k3],pending:=k1,Jh:=k2}⟩;refine⟨_,none,_,β2,_,.returned (.bool out.isNone),cs2,k6,u1,hE.trans u2,.ok (.bool _),.none _,.inr ⟨⟨rfl,l,hq⟩,λc rest hc=>?_⟩⟩;subst hc;refine(s1.trans k5).trans (.one ?_);have:=ahy (P:=P) (tm:=Yu) (df:=df2) (cs:=rest) (b:=b) rfl rfl o3 jump k4 c;rw[k3]at this;rw[k3];exact this
end Go.Ideal
namespace Go.Ideal
variable {P:Program}
section
variable {b:Frame} {tm:Array ah} {df:ae Deferred} {k:ae Item} {cs:ae Frame} {w:World}
variable{l:Nat}
def ahC{f:aB}{ps:Array Tmp}{x y:Code}{mark:ae Deferred}{w1:World}(he:(Instr.enterLoop b.fn tm ps x y b.roundOf).run P w=.ok (l,mark) w1){fn:Fn}{first captured:Array ah}
 (hf:Act.eval ⟨tm,df⟩ f=.func fn first captured) {nx:Next} {F0:Frame} (hi:(invoke (.fn fn captured) (first++ #[.func (.yield l) #[] #[]])).run P w1=.ok nx w1) (hn:entry P .normal nx=some F0):
 step P (lone (fr b tm df (.code (.rangeFunc f ps x y)::k)) cs w)=.next (lone F0 (fr b tm (mark++df) (.inRangeFunc l::k)::cs) w1):=by
 refine step_lone_go ?_;have hev:({fr b tm df (.code (.rangeFunc f ps x y)::k)with todo:=.inRangeFunc l::k,defers:=mark++df}).eval f=.func fn first captured:=by
  rw[<- hf];cases f<;>rfl
 have hcall:(do let d <- resolve ({fr b tm df (.code (.rangeFunc f ps x y)::k)with todo:=.inRangeFunc l::k,defers:=mark++df}:Frame).eval {callee:=.value f,args:= #[.const (.func (.yield l) #[] #[])],argTypes:= #[]} 0;invoke d.target d.args).run P w1=.ok nx w1:=by
  have hc:({fr b tm df (.code (.rangeFunc f ps x y)::k)with todo:=.inRangeFunc l::k,defers:=mark++df}).eval (.const (.func (.yield l) #[] #[]))=.func (.yield l) #[] #[]:=rfl;simp only[resolve,hev,Deferred.ofValue,fZ,eZ]
  grind
 have hfr:({fr b tm df (.code (.rangeFunc f ps x y)::k)with todo:=.inRangeFunc l::k,defers:=mark++df}:Frame)=fr b tm (mark++df) (.inRangeFunc l::k):=rfl;have he':=he;cases nx<;>simp only[entry,bC,reduceCtorEq]at hn
 .exact oy
 .exact oy
def ahD{r:Loop}(h:w.heap[l]? =some (.loop r))(hb:r.state≠.busy):
 step P (lone (fr b tm df (.endRangeFunc l::k)) cs w)=.next (lone (fr b tm df ((r.pending.map Item.code).toList++k)) cs (w.putObj l (.loop {r with state:=.exhausted}))):=by
 have h1:=run_endLoop (P:=P) h hb;refine step_lone_go ?_;simp[stepG,stepG.exec,fr,h1]
end
end Go.Ideal
namespace Go.Ideal
variable {P:Program}
variable{a:bE}{f:aB}
def Yv{h:IH}{K:KO}{ps:ae Tmp}{assign body:dD}(fn:Fn)(first captured:ae ah)(hf:a.eval f=.func fn ⟨first⟩ ⟨captured⟩)(a1:bE)(h1:IH)(r:Nat)(M:KR)
 (ha1:a1.tmps=a.tmps/\a1.n=a.n/\a1.pm=a.pm/\a1.ro=a.ro)
 (hc:ol P ⟨fn,mq first [.func (.yield h1.next) #[] #[]],captured,none⟩ (h1.new (.loop {state:=.ready,pending:=none,tmps:=a.tmps,n:=a.n,params:=ps,assign,body,defers:=r})) M)
 (hok:∀v pm h2,M (.ok v) pm h2->∃lp,h2.get h1.next=some (.loop lp)/\lp.state≠.busy/\K (lp.pending.getD .normal) a1 (h2.set h1.next (.loop {lp with state:=.exhausted})))
 (jM:∀ch pm h2,M (.iy ch) pm h2->K (.panic ch) a1 h2)
 {params:Array Tmp} {x y:Code} (hps:params.toList=ps) (hx:compile P x=assign) (hy:compile P y=body) (yg:FV P f=true)
 {β:aQ} {w:World} {b:Frame} {tm:Array ah} {df:ae Deferred} {k:ae Item} {cs:ae Frame} (hG:jW P β) (hW:WR P β h w) (hA:AR β none' a tm df) (hcx:CX P β a.pm a.ro b cs)
 {β1:aQ} {w1:World} {vR mark:ae Deferred} {gr:jk} (hW1:WR P β1 h1 w1) (hE1:Eff β h w β1 h1 w1) (hdf:vR=mark++df) (hdr:w9 β1 a1.defers vR) (hgr:β1 r=some gr)
 (hent:(Instr.enterLoop b.fn tm params x y b.roundOf).run P w=.ok (w1.heap.size,mark) (w1.alloc (.loop {state:=.ready,pending:=none,fn:=b.fn,tmps:=tm,params,assign:=x,body:=y,defers:=gr.b}))):
 Post P β h w a.pm a.ro b cs k K (lone (fr b tm df (.code (.rangeFunc f params x y)::k)) cs w):=by
 obtain⟨e1,e2,e3,e4⟩:=ha1;have hle1:=hE1.le hW.dom;let g:jk:=⟨w1.heap.size,0,0,0,0⟩
 let R8:Loop:={state:=.ready,pending:=none,fn:=b.fn,tmps:=tm,params,assign:=x,body:=y,defers:=gr.b}
 have hle2:β1.le (β1.add h1.next g):=aQ.xZ g hW1.zo;have hLR:LR P (β1.add h1.next g) {state:=.ready,pending:=none,tmps:=a.tmps,n:=a.n,params:=ps,assign,body,defers:=r} R8:=
  {state:=rfl,pending:=rfl,Jh:=s7,size:=hA.size,tmps:=λi=>((hA.tmps i λhh=>hh).mono hle1).mono hle2,out:=hA.out,params:=hps,assign:=hx,body:=hy,defers:=⟨gr,hle2 _ _ hgr,rfl⟩,F7:=hcx.fn}
 obtain⟨hW2,hE2⟩:=hW1.alloc (.loop {state:=.ready,pending:=none,tmps:=a.tmps,n:=a.n,params:=ps,assign,body,defers:=r}) (.loop R8) g rfl rfl ⟨R8,by simp[g],hLR⟩;have Ay:=hA.eval (iF:=df) hG yg (λ_ _ hh=>hh);rw[hf]at Ay;obtain⟨fn',f',c',k1,k2,k3,k4⟩:=Ay.Cn;have Yw:(β1.add h1.next g) h1.next=some g:=aQ.mE _ _ _
 have hG2:jW P (β1.add h1.next g):=(hG.le hle1).le hle2;obtain⟨nx,F0,n1,n2,n3⟩:=hc.call rfl hG2 hW2 ((k1.mono hle1).mono hle2) (args':=f'++[.func (.yield w1.heap.size) #[] #[]]) (by
  rw[kR];refine((k2.mono hle1).mono hle2).append (.cons ?_ .nil);exact .func (.yield Yw) .nil .nil) ((k3.mono hle1).mono hle2)
 have hargs:(⟨f'⟩:Array ah)++ #[.func (.yield w1.heap.size) #[] #[]]=⟨f'++[.func (.yield w1.heap.size) #[] #[]]⟩:=uc
 have hstep:=ahC (P:=P) (b:=b) (tm:=tm) (df:=df) (k:=k) (cs:=cs) hent k4 (nx:=nx) (F0:=F0) (by rw[hargs];exact n1) n2;rw[<- hdf]at hstep;obtain⟨res,h3,β3,w3,r',q1,q2,q3,q4,q5⟩:=n3 (fr b tm vR (.inRangeFunc w1.heap.size::k)) cs;have hle3:=q3.le hW2.dom;have hA3:AR β3 none' a1 tm vR:=by
  refine⟨by rw[e2];exact hA.size,λi hi=>?_,λi hi=>?_,(hdr.mono hle2).mono hle3⟩
  .rw[e1];exact(((hA.tmps i hi).mono hle1).mono hle2).mono hle3
  .rw[e1];exact hA.out i (by rw[<- e2];exact hi)
 have hE:Eff β h w β3 h3 w3:=(hE1.trans hE2).trans q3;have hcs:qx β3 a.pm a1.pm cs cs:=by rw[e3];exact((hcx.start.mono hle1).mono hle2).mono hle3
 cases q4 with
 | @iy ch ch' hch=>
   refine⟨.panic ch,a1,h3,β3,w3,tm,vR,cs,jM ch none h3 q1,q2,hE,hA3,hcs,e4,.inRangeFunc w1.heap.size::k,ch',hch,.head hstep q5⟩
 | @ok v v' hv=>
   obtain⟨lp,l1,l2,l3⟩:=hok v none h3 q1;have hg3:=hle3 _ _ Yw;obtain⟨zw,o1,L⟩:=q2.obj _ g _ hg3 l1;have o1:w3.heap[w1.heap.size]? =some (.loop zw):=o1;have hlt:w1.heap.size<w3.heap.size:=by
    grind
   obtain⟨z1,z2,z3⟩:=R6 (w:=w3) (o:=.loop {zw with state:=.exhausted}) hlt;obtain⟨y1,y2⟩:=q2.write hg3 l1 (.loop {lp with state:=.exhausted}) z1 z2 rfl rfl rfl (bG _) ⟨_,z3,{L with state:=rfl}⟩;have hfin:recv (fr b tm vR (.inRangeFunc w1.heap.size::k)) (.returned v')=fr b tm vR (.endRangeFunc w1.heap.size::k):=rfl;rw[hfin]at q5;have s2:=ahD (P:=P) (b:=b) (tm:=tm) (df:=vR) (k:=k) (cs:=cs) o1 (by rw[L.state];exact l2);have hst:=(Steps.head hstep q5).trans (.one s2);have uG:=L.pending;cases hlp:lp.pending with
   |none=>
    have hgd:lp.pending.getD .normal=.normal:=by rw[hlp];rfl
    rw[hgd]at l3;rw[hlp]at uG;exact gk
   |some o=>
    have hgd:lp.pending.getD .normal=o:=by rw[hlp];rfl
    rw[hgd]at l3;rw[hlp]at uG;cases o with
    |normal=>
     exact gk
    |exit id=>
     have uG:zw.pending=some (.exit id):=uG;have hto:(zw.pending.map Item.code).toList++k=.code (.exit id)::k:=by rw[uG];rfl
     rw[hto]at hst;exact⟨.exit id,a1,_,β3,_,tm,vR,cs,l3,y1,hE.trans y2,hA3,hcs,e4,k,rfl,hst⟩
    |ret=>
     have uG:zw.pending=some .ret:=uG;have hto:(zw.pending.map Item.code).toList++k=.code .ret::k:=by rw[uG];rfl
     rw[hto]at hst;exact⟨.ret,a1,_,β3,_,tm,vR,cs,l3,y1,hE.trans y2,hA3,hcs,e4,k,hst⟩
    |panic ch=>exact absurd hlp (L.Jh ch)
def ahF{h:IH}{K:KO}{ps:ae Tmp}{assign body:dD}(fn:Fn)(first captured:ae ah)(hf:a.eval f=.func fn ⟨first⟩ ⟨captured⟩)(a1:bE)(h1:IH)(r:Nat)
 (hr:(a.ro=none/\a1={a with defers:={target:=.collected h.next,args:= #[]}::a.defers}/\h1=h.new (.jJ true)/\r=h.next)\/(∃l0 r0,a.ro=some l0/\a1=a/\h1=h/\h.get l0=some (.loop r0)/\r=r0.defers))
 (M:KR) (hc:ol P ⟨fn,mq first [.func (.yield h1.next) #[] #[]],captured,none⟩ (h1.new (.loop {state:=.ready,pending:=none,tmps:=a.tmps,n:=a.n,params:=ps,assign,body,defers:=r})) M)
 (hok:∀v pm h2,M (.ok v) pm h2->∃lp,h2.get h1.next=some (.loop lp)/\lp.state≠.busy/\K (lp.pending.getD .normal) a1 (h2.set h1.next (.loop {lp with state:=.exhausted})))
 (jM:∀ch pm h2,M (.iy ch) pm h2->K (.panic ch) a1 h2):nN P (.rangeFunc f ps assign body) a h K:=by
 intro code it hcode hst β w b tm df k cs hG hW hA hcx;cases code<;>simp only[compile,reduceCtorEq]at hcode
 case region id ops draw=>rcases AA hcode with⟨_,_,h1⟩|h1<;>cases h1
 case rangeFunc f' params x y=>
  split at hcode
  .rename_i yg;simp only[dD.rangeFunc.injEq]at hcode;obtain⟨rfl,hps,hx,hy⟩:=hcode;obtain rfl:=hst.code s7;rcases hr with⟨hro,rfl,rfl,rfl⟩|⟨l0,r0,hro,rfl,rfl,hl0,rfl⟩
   .have hbr:b.roundOf=none:=by
     rcases hcx.round with⟨_,h2⟩|⟨l,g,h2,_⟩
     .exact h2
     grind
    let g:jk:=⟨w.heap.size,0,0,0,0⟩
    obtain⟨hW1,hE1⟩:=hW.alloc (.jJ true) (.deferred (some [])) g rfl rfl (by show _=_;simp[g]);refine Yv fn first captured hf {a with defers:={target:=.collected h.next,args:= #[]}::a.defers} (h.new (.jJ true)) h.next M (by grind) hc hok jM hps hx hy yg hG hW hA hcx (mark:=[{target:=.collected w.heap.size,args:= #[]}]) (gr:=g) hW1 hE1 rfl ?_ (aQ.mE _ _ _) ?_
    .exact .coll (g:=g) (aQ.mE _ _ _) (hA.defers.mono (aQ.xZ g hW.zo))
    .have hs:({w with heap:=w.heap.push (.deferred (some []))}:World).heap.size=w.heap.size+1:=by grind
     rw[hbr,run_enterLoop_outer,hs];rfl
   .obtain⟨g0,hb1,hb2⟩:∃g0,β l0=some g0/\b.roundOf=some g0.b:=by
     rcases hcx.round with⟨h2,_⟩|⟨l,g,h2,h3,h4⟩
     .grind
     grind
    obtain⟨r0',o1,L⟩:=hW.obj l0 g0 _ hb1 hl0;obtain⟨gr,hgr,ahG⟩:=L.defers;refine Yv fn first captured hf _ _ _ M (by grind) hc hok jM hps hx hy yg hG hW hA hcx (β1:=β) (vR:=df) (mark:=[]) (gr:=gr) hW (Eff.refl _ _ _ hW.dom) rfl hA.defers hgr ?_
    rw[hb2];simp only[Instr.enterLoop,dY,run_getLoop o1,eZ,fZ,ahG,run_newObj_alloc]
  .cases hcode
end Go.Ideal
namespace Go.Ideal
variable {P:Program}
def aQ.cut(β:aQ)(m:Nat):aQ:=λi=>if i<m then β i else none
def aQ.ahH(β:aQ)(m:Nat):(β.cut m).le β:=λi g h=>by
 simp only[aQ.cut]at h
 grind
def aQ.JI{β:aQ}{m i:Nat}(h:i<m):β.cut m i=β i:=by simp only[aQ.cut];rw[if_pos h]
def JJ{a b:Nat}(h:Nat.blt a b=true):a<b:=pQ h
mutual
def VR.cut{β:aQ}{m:Nat}:∀{v v':ah},VR β v v'->rT m v=true->VR (β.cut m) v v'
 |_,_,.eY v,_=>.eY v
 |_,_,.skip,_=>.skip
 |_,_,.bool b,_=>.bool b
 |_,_,.int k n,_=>.int k n
 |_,_,.float k n,_=>.float k n
 |_,_,.complex k n o,_=>.complex k n o
 |_,_,.string s,_=>.string s
 |_,_,.nilFunc,_=>.nilFunc
 |_,_,.nilIface,_=>.nilIface
 |_,_,.Ck,_=>.Ck
 |_,_,.ptr hi,hb=>.ptr Fi
 |_,_,.sl0 n c,_=>.sl0 n c
 |_,_,.aA hi q1 q2 q3,hb=>.aA Fi q1 q2 q3
 |_,_,.qN hi q1 q2 q3 q4 q5 q6 q7 q8,hb=>.qN Fi q1 q2 q3 q4 q5 q6 q7 q8
 |_,_,.Aq,_=>.Aq
 |_,_,.map hi,hb=>.map Fi
 |_,_,.func hf h1 h2,hb=>by
  simp only[rT,gV]at hb;refine .func ?_ (bB.cut h1 hb.1.2) (bB.cut h2 hb.2);cases hf with
  |func f=>exact .func f
  |method n=>exact .method n
  |methodOf t n=>exact .methodOf t n
  |yield hl=>simp at hb
 |_,_,.iface t hv,hb=>.iface t (VR.cut hv tP)
 |_,_,.agg hc hl,hb=>.agg hc (bB.cut hl tP)
 |_,_,.tuple hl,hb=>.tuple (bB.cut hl tP)
def bB.cut{β:aQ}{m:Nat}:∀{v v':ae ah},bB β v v'->xV m v=true->bB (β.cut m) v v'
 |_,_,.nil,_=>.nil
 |_,_,.cons hv hl,hb=>by
  simp only[xV,gV]at hb;exact .cons (VR.cut hv hb.1) (bB.cut hl hb.2)
end
def Yx{m:Nat}:∀{l:ae ah},xV m l=true->∀(j:Nat) v,l[j]? =some v->rT m v=true
 |[],_,j,v,h=>by simp at h
 |x::l,hb,0,v,h=>by simp only[xV]at hb;grind
 |x::l,hb,j+1,v,h=>by simp only[xV,gV]at hb;exact Yx hb.2 j v tj
def iC.cut{β:aQ}{m:Nat}{l l':ae MapEntry}(he:iC β l l')(hb:∀e∈l,rT m e.val=true):iC (β.cut m) l l':=by
 induction he with
 |nil=>exact .nil
 |cons hk hf hbn hv _ ih=>exact .cons hk hf hbn (hv.cut (by grind)) (by grind)
def OR.cut{β:aQ}{m:Nat}{g:jk}{w:World}{o:fw}(k:OR P β g w o)(hb:MB m o=true):OR P (β.cut m) g w o:=by
 cases o with
 |cells cs=>
  obtain⟨h1,h2,h3,h5,h6,h7⟩:=k;exact⟨h1,h2,h3,h5,h6,λj v hj=>let⟨v',a,b⟩:=h7 j v hj;⟨v',a,b.cut (Yx hb j v hj)⟩⟩
 |map es clock=>obtain⟨es',h1,h2⟩:=k;exact⟨es',h1,h2.cut (by simpa[MB]using hb)⟩
 |_=>cases hb
def ahI{q:ji}{h:IH}{K:KR}(h0:IH)(v:ah)(hv:dQ v=true)(hq:q.pm=none)(hfn:rT h0.next (.func q.fn ⟨q.args⟩ ⟨q.captured⟩)=true)
 (hgl:P.globals.size<=h0.next)
 (hsub:∀i o,h0.get i=some o->i<h0.next/\h.get i=some o/\MB h0.next o=true)
 (M:KR) (hc:ol P q h0 M) (h1:∀r pm h',M r pm h'->pm=none/\r=.ok v/\h'.low=h0.next)
 (hk:K (.ok v) none h):ol P q h K:=by
 intro β w fn' args' cap' hG hW hfr ha hcap;have hb0:∀i g,β.cut h0.next i=some g->i<h0.next/\β i=some g:=λi g hg=>by
  simp only[aQ.cut]at hg
  grind
 have hb1:∀i,i<h0.next->β.cut h0.next i=β i:=λi hi=>aQ.JI hi
 have hG0:jW P (β.cut h0.next):=λg hg=>by
  obtain⟨i,h1,h2⟩:=hG g hg
  grind
 have hlive:∀i,h0.get i≠none->h.get i≠none:=λi hi=>by
  cases e:h0.get i with
  |none=>exact absurd e hi
  |some o=>grind
 have hW0:WR P (β.cut h0.next) h0 w:=by
  refine⟨(by grind),(by grind),?_,?_⟩
  .intro i g o hg ho;obtain⟨_,hget,hcl⟩:=hsub i o ho;exact(hW.obj i g _ (hb0 i g hg).2 hget).cut hcl
  .intro i j g k hg hk hi hj hr he;have pass:∀x,h0.get x≠none->(∀cs,h0.get x≠some (.lD cs))->∀cs,h.get x≠some (.lD cs):=λx hx q cs e=>by
    cases e0:h0.get x with
    |none=>exact hx e0
    |some o=>grind
   exact hW.inj i j g k (hb0 i g hg).2 (hb0 j k hk).2 (hlive i hi) (hlive j hj) (by grind) he
 have Ay:=(VR.func hfr ha hcap).cut hfn;cases Ay with
 |func ahJ ha0 hcap0=>
 obtain⟨nx,F0,n1,n2,n3⟩:=hc (β.cut h0.next) w fn' args' cap' hG0 hW0 ahJ ha0 hcap0;refine⟨nx,F0,n1,n2,λcs0 AB=>?_⟩;obtain⟨r,pm',h',β',w',r',cs1,q1,q2,q3,q4,q5,q6⟩:=n3 cs0 (by grind);obtain⟨hpm,rfl,hlow'⟩:=h1 r pm' h' q1;subst hpm;cases q4 with
 | @ok v v' oL=>
   have hvv:=oL.sQ hv;subst hvv;have Yy:WR P β h w':=by
    refine⟨hW.dom,hW.live,?_,hW.inj⟩;intro i g o hg ho;have hor:=hW.obj i g o hg ho;by_cases hb:∀j k,β.cut h0.next j=some k->h0.get j≠none->k.b≠g.b
    .exact hor.congr (q3.keep g.b hor.lt hb)
    .have hb:∃j k,β.cut h0.next j=some k/\h0.get j≠none/\k.b=g.b:=by
      grind
     obtain⟨j,k,hk,hj,hkb⟩:=hb;cases e:h0.get j with
     |none=>exact absurd e hj
     |some o0=>
      obtain⟨hjn,hget,hcl⟩:=hsub j o0 e;have hij:i=j:=hW.inj i j g k hg (hb0 j k hk).2 (by rw[ho];simp) AH (.inr (by rw[hget];intro cs e;cases e;cases hcl)) hkb.symm;subst hij;rw[hget]at ho;cases ho;have hgk:g=k:=by grind
      subst hgk;have hk':h'.get i=some o:=by rw[q3.kept i (by rw[hlow'];exact hjn) hjn];exact e
      have ahL:=q2.obj i g _ (by rw[q3.agree i hjn];exact hk) hk';exact((hor.cut hcl).restrict (q3.le hW0.dom) ahL).mono (aQ.ahH _ _)
   have hE:Eff β h w β h w':=
    {agree:=λ_ _=>rfl
     next:=bG _
     alive:=λ_ _ hn=>hn
     hid:=λ_ _ _=>rfl
     low:=bG _
     kept:=λ_ _ _=>rfl
     os:=q3.os,tape:=q3.tape,output:=q3.output,drawn:=q3.drawn,size:=q3.size
     keep:=λb hb hno=>q3.keep b hb (by grind)
     fresh:=λi g hg hi=>absurd (hW.dom i g hg) s6
     vO:=λi g _ hi hg hn hgb=>by
      by_cases hb:∀j k,β.cut h0.next j=some k->h0.get j≠none->k.b≠g.b
      .exact q3.keep g.b hgb hb
      .have hb:∃j k,β.cut h0.next j=some k/\h0.get j≠none/\k.b=g.b:=by
        grind
       obtain⟨j,k,hk,hj,hkb⟩:=hb;have hjn:=(hb0 j k hk).1;rw[<- hkb];exact q3.vO j k (by rw[hlow'];exact hjn) hjn hk hj (by rw[hkb];exact hgb)}
   exact⟨_,none,h,β,w',.returned v',cs1,hk,Yy,hE,.ok (VR.free hv),by rw[hq]at q5⊢;cases q5;exact .none _,by
    grind⟩
def ahM{q:ji}{h:IH}{K:KR}(M:KR)(hc:ol P q h M)
 (hk:∀r pm h',M r pm h'->∃h'',h''.next=h'.next/\h''.low=h'.low/\(∀i,h''.get i=h'.get i\/(h.next<=i/\h''.get i=none))/\K r pm h''):ol P q h K:=by
 intro β w fn' args' cap' hG hW hfr ha hcap;obtain⟨nx,F0,n1,n2,n3⟩:=hc β w fn' args' cap' hG hW hfr ha hcap;refine⟨nx,F0,n1,n2,λcs0 AB=>?_⟩;obtain⟨r,pm',h',β',w',r',cs1,q1,q2,q3,q4,q5,q6⟩:=n3 cs0 AB;obtain⟨h'',e1,e2,e3,e4⟩:=hk r pm' h' q1;have hlive:∀i,h''.get i≠none->h'.get i≠none:=(by grind)
 have hget:∀i o,h''.get i=some o->h'.get i=some o:=(by grind)
 have hold:∀i,i<h.next->h''.get i=h'.get i:=(by grind)
 have Yy:WR P β' h'' w':=
  ⟨λi g hg=>by rw[e1];exact q2.dom i g hg,λi o ho=>by rw[e1];exact q2.live i o (hget i o ho),λi g o hg ho=>q2.obj i g o hg (hget i o ho),
   λi j g k hg hk hi hj hr he=>q2.inj i j g k hg hk (hlive i hi) (hlive j hj) (by grind) he⟩
 have hE:Eff β h w β' h'' w':=
  {agree:=q3.agree
   next:=by rw[e1];exact q3.next
   alive:=λi hi hn=>q3.alive i hi (hlive i hn)
   hid:=λi hi hb=>by rw[hold i hi];exact q3.hid i hi hb
   low:=by rw[e2];exact q3.low
   kept:=λi hl hi=>by rw[hold i hi];exact q3.kept i (by rw[<- e2];exact hl) hi
   os:=q3.os,tape:=q3.tape,output:=q3.output,drawn:=q3.drawn,size:=q3.size,keep:=q3.keep,fresh:=q3.fresh
   vO:=λj k hl hj hk hn hb=>q3.vO j k (by rw[<- e2];exact hl) hj hk hn hb}
 grind
def Yz(sW:P.follows .mixedOrders=true){q:ji}{h:IH}{K:KR}(e:CALL P q h K):ol P q h K:=by
 refine CALL.rec (P:=P) (motive_1:=λc a h K _=>nN P c a h K) (motive_2:=λds l a h K _=>qy P ds l a h K) (motive_3:=λcf ts ds m h K _=>Aw P cf ts ds m h K)
  ?_ ?_ ?_ ?_ ?_ ?_ ?_ ?_ ?_ ?_ ?_ ?_ ?_ ?_ ?_ ?_ ?_ ?_ ?_ ?_ ?_ ?_ ?_ ?_ ?_ ?_ ?_ ?_ ?_ ?_ ?_ ?_ e
 .intros;apply ag2;assumption
 .intros;apply ag1 sW;assumption
 .intro x y a h K M _ _ h3 i1 i2;exact ag3 M i1 i2 h3
 .intro c x y a h K hc _ i1;exact Yh (t:=true) hc i1
 .intro c x y a h K hc _ i1;exact Yh (t:=false) hc i1
 .intro id c a h K M _ h2 i1;exact ag5 M i1 h2
 .intro c a h K M _ _ h3 i1 i2;exact ag6 M i1 i2 h3
 .intro c a h K _ i1;exact ag7 i1
 .intro id a h K hk;exact ag8 hk
 .intro a h K hk;exact ag9 hk
 .intro f ps assign body a h K fn first captured hf a1 h1 r hr M _ hok jM i1;exact ahF fn first captured hf a1 h1 r hr M i1 hok jM
 .intro c a h K a0 hw hn _ i1;exact aha a0 hw hn i1
 .intro ds a h K hk;exact agu hk
 .intro ds s l a h K hw _ i1;exact agv hw i1
 .intro ds s l a h K hw v h' hr hs _ i1;exact agw hw v h' hr hs i1
 .intro ds s l a h K hw q hq M _ hs _ jM i1 i2;exact agG hw q hq M i1 hs i2 jM
 .intro ds s l a h K hw ho hre hm hro _ i1;exact agK hw ho hre hm hro i1
 .intro ds s l a h K hw ho hre m hm hro _ i1;exact agM hw ho hre m hm hro i1
 .intro ds s l a h K hw x ho t v hx hk;exact agI hw x ho t v hx hk
 .intro ds s l a h K hw f args ho hre hro fn first captured hf _ i1;exact agJ hw f args ho hre hro fn first captured hf i1
 .intro ds s l a h K hw x ho hre alts ha _ i1;exact agT hw x ho hre alts ha i1
 .intro cf ts h K v hv hk;exact ahh v hv hk
 .intro cf ts h K ch hk;exact ahi ch hk
 .intro cf ts args ds m h K hm r hr _ i1;exact ahj hm r hr i1
 .intro cf ts fn captured args ds m h K hm M _ hpm _ _ i1 i2 i3;exact ahm hm M i1 hpm i2 i3
 .intro q h K f args ht fn hf cf hcf M _ h2 _ i1 i3;exact ahp f args ht fn hf cf hcf M i1 h2 i3
 .intro q h K l hq hpm r hr hargs M _ h2 _ i1 i3;exact ahz l hq hpm r hr hargs M i1 h2 i3
 .intro q h K cs n f hcs hne hf M _ hq h1 hk i1;exact aht cs n f hcs hne hf M i1 hq h1 hk
 .intro q h K M _ hk i1;exact JG M i1 hk
 .intro q h K M _ hk i1;exact ahM M i1 hk
 .intro q h K h0 v hv hq hfn hnext hgl hsub M _ h1 hk i1;exact ahI h0 v hv hq hfn hgl hsub M i1 h1 hk
 grind
