/- Part. -/
import Derived.Test.YtignbinlipkmfaaGreatDoorIdealCR
import Derived.Orders
set_option linter.all false
namespace Go.Ideal
variable {P:Program}
def XV{α γ:Type}{f:α->ak γ}{x:α}{l:ae α}{r:ae γ}(h:(x::l).mapM f=some r):∃y r',f x=some y/\l.mapM f=some r'/\r=y::r':=by
 simp only[List.mapM_cons]at h;cases hx:f x with
 |none=>rw[hx]at h;cases h
 |some y=>
  rw[hx]at h;cases hl:l.mapM f with
  |none=>rw[hl]at h;cases h
  |some r'=>
   grind
def BX(i j:Nat):Bool:=decide (j<i)
def ahW(ops:Array Oper):∀(os:ae Oper) (k:Nat) (done:ae Nat) (l:ae bW),ops.toList.drop k=os->(∀j,j∈done↔j<k)->
 (os.mapM λo=>(Ip P ops o).map λs=>(⟨s,[]⟩:bW))=some l->k+os.length=ops.size->BV P ops BX (λ_=>true) (List.range' k os.length) done l:=by
 intro os;induction os with
 |nil=>
  intro k done l _ hd hm hk;simp only[List.mapM_nil,Option.pure_def,bz]at hm;exact⟨hm.symm,(by grind)⟩
 |cons o os ih=>
  intro k done l hdrop hd hm hk;obtain⟨p,r,h1,h2,rfl⟩:=XV hm;have hlt:k<ops.size:=by simp at hk;omega
  have hko:ops[k]? =some o:=by
   have:(ops.toList.drop k)[0]? =some o:=by rw[hdrop];rfl
   grind
  cases hs:Ip P ops o with
  |none=>rw[hs]at h1;cases h1
  |some s=>
   rw[hs]at h1;simp only[om,bz]at h1;subst h1;have hbef:∀j∈done,BX k j=true:=λj hj=>by have:=(hd j).1 hj;simpa[BX]using this
   have hstep:xU ops BX (λ_=>true) done k:=
    {lt:=hlt,new:=(by grind),pre:=λj hj=>(hd j).2 (by simpa[BX]using hj)
     heavy:=(by grind)
     own:=λhc=>(by cases hc)
     put:=(by grind)
     look:=(by grind)}
   refine⟨hstep,s,[],r,rfl,by simp[mH,hko,hs],λhc=>(by cases hc),(by grind),?_⟩;refine ih (k+1) (k::done) r ?_ (λj=>?_) h2 (by simp at hk;omega)
   .rw[<- List.drop_drop,hdrop];rfl
   grind
def ahX(n:Nat)(ops:Array Oper)(hn:ops.size=n):∀(m k:Nat) (S:ae Nat),k+m=n->(∀j,j∈S↔j<k)->y9 ops BX S (List.range' k m):=by
 intro m;induction m with
 |zero=>intro k S hk hS i hi xY;grind
 |succ m ih=>
  intro k S hk hS;refine⟨tf,(by grind),λj hj=>(hS j).2 (by simpa[BX]using hj),?_⟩
  grind
def direct(ops:Array Oper)(i j:Nat):Prop:=∃o,ops[i]? =some o/\∃e∈o.after.toList,Region.binds .any e=true/\e.on=j
def ahY(look:Nat->Nat)(j:Nat):∀(l:ae Edge) (s:Nat),(l.foldl (λs e=>if Region.binds .any e then s|||2^e.on|||look e.on else s) s).testBit j=true↔
 s.testBit j=true\/∃e∈l,Region.binds .any e=true/\(e.on=j\/(look e.on).testBit j=true):=by
 intro l;induction l with
 |nil=>intro s;simp
 |cons e l ih=>
  grind
def ahZ(l:ae Oper):∀(A:Array Nat),let B:=l.foldl (λ(acc:Array Nat) o=>acc.push (o.after.foldl (λs e=>if Region.binds .any e then s|||2^e.on|||acc.getD e.on 0 else s) 0)) A
 B.size=A.size+l.length/\(∀i,i<A.size->B.getD i 0=A.getD i 0)/\∀(i:Nat) o,l[i]? =some o->∃look:Nat->Nat,B.getD (A.size+i) 0=o.after.toList.foldl (λs e=>if Region.binds .any e then s|||2^e.on|||look e.on else s) 0/\∀k,look k=if k<A.size+i then B.getD k 0 else 0:=by
 induction l with
 |nil=>grind
 |cons o l ih=>
  intro A;simp only[xC];let v:=o.after.foldl (λs e=>if Region.binds .any e then s|||2^e.on|||A.getD e.on 0 else s) 0
  obtain⟨h1,h2,h3⟩:=ih (A.push v);refine⟨by rw[h1];simp;omega,λi hi=>?_,λi o' ho'=>?_⟩
  .rw[h2 i tx];simp[zY,Array.getElem?_push,show i≠A.size by omega]
  .cases i with
   |zero=>
    simp only[Fq,bz]at ho';subst ho';refine⟨λk=>A.getD k 0,?_,λk=>?_⟩
    .rw[Dm,h2 A.size tg];have:(A.push v).getD A.size 0=v:=by simp[zY]
     grind
    .simp only[Dm];by_cases hk:k<A.size
     .rw[if_pos hk,h2 k tx];simp[zY,Array.getElem?_push,show k≠A.size by omega]
     grind
   |succ i=>
    obtain⟨look,q1,q2⟩:=h3 i o' (by simpa using ho');refine⟨look,?_,λk=>?_⟩
    .grind
    grind
def Sc(ops:Array Oper)(i j:Nat)(hi:i<ops.size):uV ops i j=true↔direct ops i j\/∃k,direct ops i k/\k<i/\uV ops k j=true:=by
 obtain⟨_,_,h3⟩:=ahZ ops.toList #[];simp only[Array.size_empty,gI,List.size_toArray,Bw]at h3;obtain⟨look,q1,q2⟩:=h3 i ops[i] (by simp[hi]);have hB:Region.before ops=ops.toList.foldl (λ(acc:Array Nat) o=>acc.push (o.after.foldl (λs e=>if Region.binds .any e then s|||2^e.on|||acc.getD e.on 0 else s) 0)) #[]:=by
  unfold Region.before
  grind
 rw[<- hB]at q1 q2;show((Region.before ops).getD i 0).testBit j=true↔direct ops i j\/∃k,direct ops i k/\k<i/\((Region.before ops).getD k 0).testBit j=true;rw[q1,ahY];simp only[Nat.zero_testBit,Dn,false_or];have ho:ops[i]? =some ops[i]:=by simp[hi]
 constructor
 .rintro⟨e,he,hb,h|h⟩
  .exact .inl ⟨_,ho,e,he,hb,h⟩
  .rw[q2]at h;split at h
   .rename_i hlt;exact .inr ⟨e.on,⟨_,ho,e,he,hb,rfl⟩,hlt,h⟩
   .simp at h
 .rintro(⟨o,ho',e,he,hb,rfl⟩|⟨k,⟨o,ho',e,he,hb,rfl⟩,hk,h⟩)
  .grind
  grind
end Go.Ideal
namespace Go.Ideal
variable {P:Program}
variable{ops:Array Oper}{done:ae Nat}
def XW{i:Nat}(hi:i<ops.size):FI ops done i=true↔i∉done/\∀j,direct ops i j->j∈done:=by
 have ho:ops[i]? =some ops[i]:=by simp[hi]
 unfold FI;simp only[ho,eU,jN,Fs];constructor
 .rintro⟨h1,h2⟩;refine⟨(by grind),?_⟩;rintro j ⟨o,ho',e,he,hb,rfl⟩
  grind
 .rintro⟨h1,h2⟩;refine⟨by simpa using h1,λe he=>?_⟩;cases hb:Region.binds .any e with
  |false=>exact .inl rfl
  |true=>exact .inr (by simpa using h2 e.on ⟨_,ho,e,he,hb,rfl⟩)
def closed(ops:Array Oper)(done:ae Nat):Prop:=∀k∈done,∀j,uV ops k j=true->j∈done
def XX(hcl:closed ops done){i:Nat}(hi:i<ops.size)(hd:∀j,direct ops i j->j∈done):∀j,uV ops i j=true->j∈done:=λj hj=>by
 rcases(Sc ops i j hi).1 hj with h|⟨k,h1,_,h2⟩
 .exact hd j h
 .exact hcl k (hd k h1) j h2
def ah0(ops:Array Oper):∀(rest done:ae Nat) (l:ae bW),Iq ops (uV ops) (BI P ops) rest done=true->Ir (uV ops) (mH P ops) rest done=some l->closed ops done->
 BV P ops (uV ops) (BI P ops) rest done l:=by
 intro rest;induction rest with
 |nil=>
  intro done l ho hp _;simp only[Ir,bz]at hp;refine⟨hp.symm,λi hi=>?_⟩;simp only[Iq,jN,r9]at ho;simpa using ho i hi
 |cons i rest ih=>
  intro done l ho hp hcl;simp only[Iq,eU]at ho;obtain⟨hs,ho⟩:=ho;simp only[Ir]at hp;split at hp
  .rename_i s r hcs hr;simp only[bz]at hp;subst hp;obtain⟨o,hoi,iG,hdst,_⟩:=qQ hcs;have hlt:i<ops.size:=(MW.1 hoi).1;have XY:BI P ops i=heavy s.op:=by simp[BI,hcs]
   unfold W9 at hs;rw[hoi]at hs;simp only[eU]at hs;obtain⟨⟨⟨s1,s2⟩,s3⟩,s4⟩:=hs;obtain⟨r1,r2⟩:=(XW hlt).1 s1;have hpre:=XX hcl hlt r2;have hstep:xU ops (uV ops) (BI P ops) done i:=
    {lt:=hlt,new:=r1,pre:=hpre
     heavy:=λhv=>by
      rw[hv]at s2;simp only[Bool.not_true,Bool.false_or,eU,jN,Fs,QV,r9]at s2;refine⟨λj hj NC=>(s2.1 j hj).resolve_left (by rw[NC];simp),λj hj NC hjd=>?_⟩;have hnr:=(s2.2 j hj).resolve_left (by rw[NC];simp);refine Classical.byContradiction λhno=>?_;have:=(XW hj).2 ⟨hjd,λk hk=>Decidable.byContradiction λhkd=>hno ⟨k,(Sc ops j k hj).2 (.inl hk),hkd⟩⟩;rw[this]at hnr;cases hnr
     own:=λhv o' d ho' hd=>by
      rw[hoi]at ho';cases ho';rw[hd]at s3;simp only[hv,Bool.false_or,eU,QV]at s3;intro hc;have:=s3.1;rw[List.contains_iff_mem.2 hc]at this;cases this
     put:=λo' d ho' hd j hj p hp' hc=>by
      rw[hoi]at ho';cases ho';rw[hd]at s3;simp only[eU,jN]at s3;have:=s3.2 j hj;rw[hp']at this;simp only at this;rw[if_pos (by
       simp only[Fs];rcases hc with h|h
       .exact .inl (List.contains_iff_mem.2 h)
       .exact .inr (by rw[h];simp))]at this
      simpa using this
     look:=λo' ho' j hj p hp' d hd hdl=>by
      rw[hoi]at ho';cases ho';simp only[jN]at s4;have:=s4 j hj;rw[hp']at this;simp only[hd]at this;rw[if_pos (List.contains_iff_mem.2 hdl)]at this;exact this}
   have ND:closed ops (i::done):=λk hk j hj=>by
    exact pn
   refine⟨hstep,s,_,r,rfl,hcs,λhv=>by rw[<- XY];exact hv,λhv j hj NC hb t ht hrd=>?_,ih (i::done) r ho hr ND⟩;rw[XY]at hv;rw[if_pos hv];refine Ic.2 ⟨j,hj,?_⟩;rw[ht];simp only[hrd,hb,Bool.not_false,Bool.and_self,if_true]
  .cases hp
def ah1(ops:Array Oper):∀(fuel t:Nat) (listed:Array Bool) (S:ae Nat),listed.size=ops.size->(∀j,j∈S↔listed.getD j false=true)->listed.countP (λb=>!b)<=fuel->closed ops S->
 y9 ops (uV ops) S (Region.linearise.go .any ops fuel t listed []):=by
 intro fuel;induction fuel with
 |zero=>
  intro t listed S hsz hS hc _;intro i hi xY
  exfalso
  apply xY;rw[hS];have h0:listed.countP (λb=>!b)=0:=tf
  rw[Array.countP_eq_zero]at h0;have hlt:i<listed.size:=tf
  have:=h0 listed[i] (Array.getElem_mem hlt);simp[hlt];simpa using this
 |succ fuel ih=>
  intro t listed S hsz hS hc hcl;have hrd:∀i,i∈Region.ready .any ops listed↔i<ops.size/\i∉S/\∀j,direct ops i j->j∈S:=by
   intro i;rw[mem_ready];constructor
   .rintro⟨h1,o,ho,h2⟩;have hlt:i<ops.size:=(MW.1 ho).1;refine⟨hlt,λxY=>?_,?_⟩
    .rw[hS]at xY;have hl:i<listed.size:=by omega
     simp[hl]at h1 xY;rw[h1]at xY;cases xY
    .rintro j ⟨o',ho',e,he,hb,rfl⟩;rw[ho]at ho';cases ho';rw[hS];exact h2 e (by simpa using he) hb
   .rintro⟨h1,h2,h3⟩;refine⟨?_,ops[i],by simp[h1],λe he hb=>?_⟩
    .rw[hS]at h2;have hl:i<listed.size:=by omega
     simp[hl]at h2⊢;exact h2
    .rw[<- hS];exact h3 e.on ⟨ops[i],by simp[h1],e,by simpa using he,hb,rfl⟩
  change y9 ops (uV ops) S (match (Region.ready .any ops listed)[t%(Region.ready .any ops listed).length]? with
   |some i=>Region.linearise.go .any ops fuel (t/(Region.ready .any ops listed).length) (listed.setIfInBounds i true) [i]
   |none=>[].reverse)
  cases hi:(Region.ready .any ops listed)[t%(Region.ready .any ops listed).length]? with
  |none=>
   have hnil:Region.ready .any ops listed=[]:=by
    cases hr:Region.ready .any ops listed with
    |nil=>rfl
    |cons x xs=>
     rw[hr]at hi;have hlt:t%(x::xs).length<(x::xs).length:=zX _ tg;simp at hi;simp at hlt;omega
   intro i hilt xY;have hnr:i∉Region.ready .any ops listed:=by rw[hnil];simp
   rw[hrd]at hnr;refine Classical.byContradiction λhno=>hnr ⟨hilt,xY,λj hj=>Decidable.byContradiction λhjS=>hno ⟨j,(Sc ops i j hilt).2 (.inl hj),hjS⟩⟩
  |some i=>
   simp only;rw[linearise_go_acc,List.reverse_singleton,List.singleton_append];obtain⟨h1,h2,h3⟩:=(hrd i).1 (aU hi);have hpre:=XX hcl h1 h3;have hl:i<listed.size:=tf
   refine⟨h1,h2,hpre,ih _ _ _ (by simpa using hsz) (λj=>?_) ?_ ?_⟩
   .rw[dB,hS];by_cases e:j=i
    .subst e;simp[hl]
    .simp[e,afQ (Ne.symm e)]
   .have hfalse:listed[i]=false:=by
     rw[hS]at h2;simp[hl]at h2;exact h2
    have:(listed.setIfInBounds i true).countP (λb=>!b)=listed.countP (λb=>!b) - 1:=by
     have:=Array.countP_set (p:=λb=>!b) (a:=true) hl;rw[Array.setIfInBounds,dif_pos hl,this];simp[hfalse]
    omega
   .intro k hk j hj;exact pn
def ah3(uZ:P.follows .mixedOrders=true){ds:ae Tmp}{l:ae bW}{a:bB}{h:IH}{K:KO}(hM:qA P ds l a h K):nE P (.ops ds l) a h K:=by
 intro code it hcode hst β w b tm df k cs hG hW hA hcx;cases code<;>simp only[compile,reduceCtorEq]at hcode
 case rangeFunc f ps x y=>grind
 case region id ops draw=>
  obtain rfl:it=.code (.region id ops draw):=hst.resolve_right (by grind);have hinv:∀(cz:Nat->Nat->Bool) (hv:Nat->Bool) (w':World),w'.heap=w.heap->w'.os=w.os->w'.tape=w.tape->w'.output=w.output->w.drawn<=w'.drawn->Inv P ops hv cz β h w [] [] β a h w' tm df:=λcz hv w' e1 e2 e3 e4 e5=>
   {wG:=trivial,sub:=(by grind),I8:=(by grind)
    pend:=⟨λ_=>0,(by grind),(by grind)⟩
    act:=⟨hA.size,λi _=>hA.tmps i λhh=>hh,hA.out,hA.defers⟩
    wr:=hW.qg e1,wH:=Eff.qg hW.dom e1 e2 e3 e4 e5}
  have hdst:∀(i:Nat) o d,ops[i]? =some o->o.dst=some d->d∈dstsOf ops:=λi o d ho hd=>Ic.2 (by grind);unfold M9 at hcode;cases draw with
  |false=>
   split at hcode
   .rename_i l' hl;simp only[dH.ops.injEq]at hcode;obtain⟨rfl,rfl⟩:=hcode;have hp:=ahW (P:=P) ops ops.toList 0 [] l' tg tg hl tg;have hr:=ahX ops.size ops rfl ops.size 0 [] tf tg;refine .of_steps (.one ahh) (hM ops BX (λ_=>true) _ [] [] hp hdst β h w a.pm a.ro cs β w b tm df k cs (List.range ops.size) hG hW.dom hcx (by grind) ?_ hcx.start rfl);rw[List.range_eq_range'];exact hr
   .cases hcode
  |true=>
   simp only[if_true]at hcode;split at hcode
   .rename_i l' hl;simp only[dH.ops.injEq]at hcode;obtain⟨rfl,rfl⟩:=hcode;unfold Xa at hl;simp only at hl;split at hl
    .rename_i hok;have hp:=ah0 (P:=P) ops _ [] l' hok hl (λk hk=>by simp at hk);refine .of_steps (.one ahi) (hM ops (uV ops) (BI P ops) _ [] [] hp hdst β h w a.pm a.ro cs β {w with drawn:=w.drawn+1} b tm df k cs _ hG hW.dom hcx (by grind) ?_ hcx.start rfl);simp only[Region.schedule,uZ,Bool.true_or,if_true,Region.linearise];refine ah1 ops _ _ _ [] tg (λj=>?_) ?_ (λk hk=>by simp at hk)
     .simp only[MV,false_iff];intro hc;by_cases hj:j<ops.size
      .simp[hj]at hc
      .simp[hj]at hc
     .simpa using Array.countP_le_size (xs:=Array.replicate ops.size false) (p:=λb=>!b)
    .cases hl
   .cases hcode
end Go.Ideal
namespace Go.Ideal
variable {P:Program}
def R8.code{code:Code}{it:Item}(h:R8 code it)(hn:∀body,code≠.loop body):it=.code code:=h.resolve_right (by grind)
def Al{ops:Array Oper}{draw:Bool}{c:dH}(h:M9 P ops draw=c):(∃ds l,c=.ops ds l)\/c=.fail:=by
 unfold M9 at h
 grind
def Post.after{β0:aI}{h0:IH}{w0:World}{kU:ak FrameMode}{kg:ak Nat}{b:Frame}{cs0 cs1:ae Frame}{k:ae Item}{K:KO}{M:Machine}{β1:aI}{h1:IH}{w1:World}{XZ:ak FrameMode}
 (he:Eff β0 h0 w0 β1 h1 w1) (hc:qz β1 kU XZ cs0 cs1) (hp:Post P β1 h1 w1 XZ kg b cs1 k K M):Post P β0 h0 w0 kU kg b cs0 k K M:=by
 obtain⟨o,a',h',β',w',tm',iF,cs',q1,q2,q3,q4,q5,q6,q7⟩:=hp;exact⟨o,a',h',β',w',tm',iF,cs',q1,q2,he.trans q3,q4,hc.trans q5,q6,q7⟩
section
variable {a:bB} {h:IH} {K:KO}
def ah4(hk:K .normal a h):nE P .skip a h K:=by
 intro code it hcode hst β w b tm df k cs hG hW hA hcx;cases code<;>simp only[compile,reduceCtorEq]at hcode
 case skip=>
  obtain rfl:=hst.code tg;exact⟨.normal,a,h,β,w,tm,df,cs,hk,hW,Eff.refl _ _ _ hW.dom,hA,hcx.start,rfl,.one ag7⟩
 case label l=>
  obtain rfl:=hst.code tg;exact⟨.normal,a,h,β,w,tm,df,cs,hk,hW,Eff.refl _ _ _ hW.dom,hA,hcx.start,rfl,.one ag8⟩
 case region id ops draw=>rcases Al hcode with⟨_,_,h1⟩|h1<;>cases h1
 grind
variable{x y:dH}
def ah5(M:KO)(h1:nE P x a h M)(h2:∀a' h',M .normal a' h'->nE P y a' h' K)(h3:∀o a' h',M o a' h'->o≠.normal->K o a' h'):nE P (.seq x y) a h K:=by
 intro code it hcode hst β w b tm df k cs hG hW hA hcx;cases code<;>simp only[compile,reduceCtorEq]at hcode
 case region id ops draw=>rcases Al hcode with⟨_,_,h1⟩|h1<;>cases h1
 case rangeFunc f ps x y=>grind
 case seq cx cy=>
  simp only[dH.seq.injEq]at hcode;obtain⟨NE,hcy⟩:=hcode;obtain rfl:=hst.code tg;obtain⟨o,a',h',β',w',tm',iF,cs',q1,q2,q3,q4,q5,q6,q7⟩:=h1 cx _ NE (.inl rfl) β w b tm df (.code cy::k) cs hG hW hA hcx;have hle:=q3.le hW.dom;cases o with
  |normal=>
   have:=h2 a' h' q1 cy _ hcy (.inl rfl) β' w' b tm' iF k cs' (hG.le hle) q2 q4 B0;rw[q6]at this;exact .of_steps ((Steps.one Nu).trans q7) (this.after q3 q5)
  |exit id=>
   obtain⟨todo,e1,e2⟩:=q7;exact⟨_,a',h',β',w',tm',iF,cs',h3 _ _ _ q1 tg,q2,q3,q4,q5,q6,todo,e1.trans (by simp[exitTo]),(Steps.one Nu).trans e2⟩
  |ret=>
   obtain⟨todo,e2⟩:=q7;exact⟨_,a',h',β',w',tm',iF,cs',h3 _ _ _ q1 tg,q2,q3,q4,q5,q6,todo,(Steps.one Nu).trans e2⟩
  |panic ch=>
   obtain⟨todo,ch',e1,e2⟩:=q7;exact⟨_,a',h',β',w',tm',iF,cs',h3 _ _ _ q1 tg,q2,q3,q4,q5,q6,todo,ch',e1,(Steps.one Nu).trans e2⟩
def ah6{β:aI}{tm:Array ah}{df:ae Deferred}(hA:AR β none' a tm df){c:az}{t:Bool}(hc:a.eval c=.bool t):Act.eval ⟨tm,df⟩ c=.bool t:=by
 cases c with
 |tmp i=>
  have:=hA.tmps i (λhh=>hh);have hc':dU a.tmps i=.bool t:=hc;rw[hc']at this;exact this.Nj
 |const v=>exact hc
 |global g=>cases hc
 |func f=>cases hc
def X0{c:az}{t:Bool}(hc:a.eval c=.bool t)(h1:nE P (if t then x else y) a h K):nE P (.cond c x y) a h K:=by
 intro code it hcode hst β w b tm df k cs hG hW hA hcx;cases code<;>simp only[compile,reduceCtorEq]at hcode
 case region id ops draw=>rcases Al hcode with⟨_,_,h1⟩|h1<;>cases h1
 case rangeFunc f ps x y=>grind
 case cond c' cx cy=>
  obtain⟨rfl,NE,hcy⟩:=hcode;obtain rfl:=hst.code tg;refine .of_steps (.one (ahd (ah6 hA hc))) (h1 (if t then cx else cy) _ ?_ (.inl rfl) β w b tm df k cs hG hW hA hcx)
  grind
variable{c:dH}{id:Nat}
def ah7(M:KO)(h1:nE P c a h M)(h2:∀o a' h',M o a' h'->K (inBlock id o) a' h'):nE P (.block id c) a h K:=by
 intro code it hcode hst β w b tm df k cs hG hW hA hcx;cases code<;>simp only[compile,reduceCtorEq]at hcode
 case region id ops draw=>rcases Al hcode with⟨_,_,h1⟩|h1<;>cases h1
 case rangeFunc f ps x y=>grind
 case block id' cx=>
  simp only[dH.block.injEq]at hcode;obtain⟨rfl,NE⟩:=hcode;obtain rfl:=hst.code tg;obtain⟨o,a',h',β',w',tm',iF,cs',q1,q2,q3,q4,q5,q6,q7⟩:=h1 cx _ NE (.inl rfl) β w b tm df (.inBlock id'::k) cs hG hW hA hcx;have hk:=h2 o a' h' q1;cases o with
  |normal=>exact⟨.normal,a',h',β',w',tm',iF,cs',hk,q2,q3,q4,q5,q6,((Steps.one I5).trans q7).trans (.one ag9)⟩
  |exit j=>
   obtain⟨todo,e1,e2⟩:=q7;cases hb:Nat.beq j id' with
   |true=>
    have hj:=tL hb;subst hj;have hk':K .normal a' h':=by
     have:inBlock j (.exit j)=.normal:=by simp only[inBlock,hb,cond_true]
     grind
    have he:exitTo j todo=some k:=by rw[e1];simp[exitTo]
    exact⟨.normal,a',h',β',w',tm',iF,cs',hk',q2,q3,q4,q5,q6,((Steps.one I5).trans e2).trans (.one (ahe he))⟩
   |false=>
    have hj:=H9 hb;have hk':K (.exit j) a' h':=by
     have:inBlock id' (.exit j)=.exit j:=by simp only[inBlock,hb,cond_false]
     grind
    exact⟨.exit j,a',h',β',w',tm',iF,cs',hk',q2,q3,q4,q5,q6,todo,e1.trans (by simp[exitTo,Ne.symm hj]),(Steps.one I5).trans e2⟩
  |ret=>
   obtain⟨todo,e2⟩:=q7;exact⟨.ret,a',h',β',w',tm',iF,cs',hk,q2,q3,q4,q5,q6,todo,(Steps.one I5).trans e2⟩
  |panic ch=>
   obtain⟨todo,ch',e1,e2⟩:=q7;exact⟨.panic ch,a',h',β',w',tm',iF,cs',hk,q2,q3,q4,q5,q6,todo,ch',e1,(Steps.one I5).trans e2⟩
def ah8(M:KO)(h1:nE P c a h M)(h2:∀a' h',M .normal a' h'->nE P (.loop c) a' h' K)(h3:∀o a' h',M o a' h'->o≠.normal->K o a' h'):nE P (.loop c) a h K:=by
 intro code it hcode hst β w b tm df k cs hG hW hA hcx;cases code<;>simp only[compile,reduceCtorEq]at hcode
 case region id ops draw=>rcases Al hcode with⟨_,_,h1⟩|h1<;>cases h1
 case rangeFunc f ps x y=>grind
 case loop cx=>
  simp only[dH.loop.injEq]at hcode;have hstep:step P (lone (fr b tm df (it::k)) cs w)=.next (lone (fr b tm df (.code cx::.inLoop cx::k)) cs w):=by
   rcases hst with rfl|⟨body,hb,rfl⟩
   .exact ahb
   .simp only[Code.loop.injEq]at hb;subst hb;exact ahc
  obtain⟨o,a',h',β',w',tm',iF,cs',q1,q2,q3,q4,q5,q6,q7⟩:=h1 cx _ hcode (.inl rfl) β w b tm df (.inLoop cx::k) cs hG hW hA hcx;have hle:=q3.le hW.dom;cases o with
  |normal=>
   have:=h2 a' h' q1 (.loop cx) (.inLoop cx) (by simp[compile,hcode]) (.inr ⟨cx,rfl,rfl⟩) β' w' b tm' iF k cs' (hG.le hle) q2 q4 B0;rw[q6]at this;exact .of_steps ((Steps.one hstep).trans q7) (this.after q3 q5)
  |exit id=>
   obtain⟨todo,e1,e2⟩:=q7;exact⟨_,a',h',β',w',tm',iF,cs',h3 _ _ _ q1 tg,q2,q3,q4,q5,q6,todo,e1.trans (by simp[exitTo]),(Steps.one hstep).trans e2⟩
  |ret=>
   obtain⟨todo,e2⟩:=q7;exact⟨_,a',h',β',w',tm',iF,cs',h3 _ _ _ q1 tg,q2,q3,q4,q5,q6,todo,(Steps.one hstep).trans e2⟩
  |panic ch=>
   obtain⟨todo,ch',e1,e2⟩:=q7;exact⟨_,a',h',β',w',tm',iF,cs',h3 _ _ _ q1 tg,q2,q3,q4,q5,q6,todo,ch',e1,(Steps.one hstep).trans e2⟩
def ah9(h1:nE P c a h K):nE P (.scope c) a h K:=by
 intro code it hcode hst β w b tm df k cs hG hW hA hcx;cases code<;>simp only[compile,reduceCtorEq]at hcode
 case region id ops draw=>rcases Al hcode with⟨_,_,h1⟩|h1<;>cases h1
 case rangeFunc f ps x y=>grind
 case scope cx=>
  simp only[dH.scope.injEq]at hcode;obtain rfl:=hst.code tg;obtain⟨o,a',h',β',w',tm',iF,cs',q1,q2,q3,q4,q5,q6,q7⟩:=h1 cx _ hcode (.inl rfl) β w b tm df (.inScope cx::k) cs hG hW hA hcx;cases o with
  |normal=>exact⟨_,a',h',β',w',tm',iF,cs',q1,q2,q3,q4,q5,q6,((Steps.one Nv).trans q7).trans (.one aha)⟩
  |exit id=>
   obtain⟨todo,e1,e2⟩:=q7;exact⟨_,a',h',β',w',tm',iF,cs',q1,q2,q3,q4,q5,q6,todo,e1.trans (by simp[exitTo]),(Steps.one Nv).trans e2⟩
  |ret=>
   obtain⟨todo,e2⟩:=q7;exact⟨_,a',h',β',w',tm',iF,cs',q1,q2,q3,q4,q5,q6,todo,(Steps.one Nv).trans e2⟩
  |panic ch=>
   obtain⟨todo,ch',e1,e2⟩:=q7;exact⟨_,a',h',β',w',tm',iF,cs',q1,q2,q3,q4,q5,q6,todo,ch',e1,(Steps.one Nv).trans e2⟩
def aia(hk:K (.exit id) a h):nE P (.exit id) a h K:=by
 intro code it hcode hst β w b tm df k cs hG hW hA hcx;cases code<;>simp only[compile,reduceCtorEq]at hcode
 case region id ops draw=>rcases Al hcode with⟨_,_,h1⟩|h1<;>cases h1
 case rangeFunc f ps x y=>grind
 case exit j=>
  simp only[dH.exit.injEq]at hcode;subst hcode;obtain rfl:=hst.code tg;exact⟨_,a,h,β,w,tm,df,cs,hk,hW,Eff.refl _ _ _ hW.dom,hA,hcx.start,rfl,k,rfl,Steps.refl P _⟩
def aib(hk:K .ret a h):nE P .ret a h K:=by
 intro code it hcode hst β w b tm df k cs hG hW hA hcx;cases code<;>simp only[compile,reduceCtorEq]at hcode
 case region id ops draw=>rcases Al hcode with⟨_,_,h1⟩|h1<;>cases h1
 case rangeFunc f ps x y=>grind
 case ret=>
  obtain rfl:=hst.code tg;exact⟨_,a,h,β,w,tm,df,cs,hk,hW,Eff.refl _ _ _ hW.dom,hA,hcx.start,rfl,k,Steps.refl P _⟩
def aic(a0:bB)(hw:∀i,dU a0.tmps i=eO\/dU a0.tmps i=dU a.tmps i)(hn:a0.n=a.n/\a0.defers=a.defers/\a0.pm=a.pm/\a0.ro=a.ro)(h1:nE P c a0 h K):nE P c a h K:=by
 intro code it hcode hst β w b tm df k cs hG hW hA hcx;obtain⟨n1,n2,n3,n4⟩:=hn;have Sd:AR β none' a0 tm df:=⟨by rw[n1];exact hA.size,λi hi=>by
  rcases hw i with e|e
  .rw[e];exact .eO _
  .rw[e];exact hA.tmps i hi,λi hi=>by
  rw[n1]at hi;rcases hw i with e|e
  .exact e
  .rw[e];exact hA.out i hi,by rw[n2];exact hA.defers⟩
 have:=h1 code it hcode hst β w b tm df k cs hG hW Sd (by rw[n3,n4];exact hcx)
 grind
end
end Go.Ideal
namespace Go.Ideal
variable {P:Program}
def aid(ts:T ah)(h:IH)(r:ug)(l:ae ug):Ab ts h (r::l)=match wB ts h r,Ab ts h l with
 |some v,some vs=>some (v::vs)
 |_,_=>none:=rfl
def F8(tm:Array ah):ResultVar->Sem ah
 | .tmp t=>pure (tm.getD t undef)
 | .cell a t=>do loadVar t (<- asAddr (tm.getD a undef))
def aie(fn:Func)(tm:Array ah):results fn tm=(do
 let vs <- fn.results.mapM (F8 tm)
 pure (if h:vs.size=1 then vs[0]else .tuple vs)):=by
 have:(λr=>match r with
  | .tmp t=>(pure (tm.getD t undef))
  | .cell a t=>do loadVar t (<- asAddr (tm.getD a undef)))=F8 tm:=by
  funext r;cases r<;>rfl
 rfl
variable{β:aI}{h:IH}{w:World}{ts:T ah}{tm:Array ah}
def aif(hW:WR P β h w)(ht:∀i,VR β (dU ts i) (tm.getD i undef)){r:ResultVar}{c:ug}(hc:Iu P r=some c){v:ah}(hv:wB ts h c=some v):
 ∃v',(F8 tm r).run P w=.ok v' w/\VR β v v':=by
 cases r with
 |tmp t=>
  simp only[Iu,bz]at hc;subst hc;simp only[wB,bz]at hv;subst hv;exact⟨_,rfl,ht t⟩
 |cell a t=>
  simp only[Iu]at hc;split at hc
  .rename_i hagg;cases hs:kw P t with
   |none=>simp[hs]at hc
   |some n=>
    simp only[hs,om,bz]at hc;subst hc;simp only[wB]at hv;split at hv
    .rename_i i o ha;have hx:=ht a;rw[ha]at hx;obtain⟨g,hg,hx'⟩:=hx.xS;split at hv
     .rename_i cs hcs;simp only[bz]at hv;subst hv;obtain⟨blk,hb,hl⟩:=Xj hcs;obtain⟨l1,l2,l',l3,l4⟩:=Ni hW hg (.inl hb) hl;obtain⟨d,hd⟩:=Xi hagg;refine⟨.agg ⟨l'⟩,?_,.agg l2 l3⟩;have:=Rn (P:=P) (by rw[l3.length,l1]) l4;simp only[F8,dS,hx',asAddr,fM,eX,loadVar,FV hd,hagg,pg hs,this,if_true]
     .cases hv
    .cases hv
  .rename_i hagg;split at hc
   .rename_i d hd;simp only[bz]at hc;subst hc;simp only[wB]at hv;split at hv
    .rename_i i o ha;have hx:=ht a;rw[ha]at hx;obtain⟨g,hg,hx'⟩:=hx.xS;split at hv
     .rename_i cs hcs;obtain⟨_,_,_,_,_,h7⟩:=hW.obj i g _ hg hcs;rw[uo]at hv;obtain⟨v',q1,q2⟩:=h7 _ _ hv;have Rt:lD P t=false:=by simpa using hagg
      refine⟨v',?_,q2⟩;simp only[F8,dS,hx',asAddr,loadVar,FV hd,Rt,if_false];simp[q1]
     .cases hv
    .cases hv
   .cases hc
def aih(hW:WR P β h w)(ht:∀i,VR β (dU ts i) (tm.getD i undef)):∀(rs:ae ResultVar) (cs:ae ug) (vs:ae ah),rs.mapM (Iu P)=some cs->Ab ts h cs=some vs->
 ∃vs',(rs.mapM (F8 tm)).run P w=.ok vs' w/\aY β vs vs':=by
 intro rs;induction rs with
 |nil=>
  intro cs vs hc hv;simp only[List.mapM_nil,Option.pure_def,bz]at hc;subst hc;change some []=some vs at hv
  simp only[bz]at hv;subst hv;exact⟨[],rfl,.nil⟩
 |cons r rs ih=>
  intro cs vs hc hv;obtain⟨c,cs',h1,h2,rfl⟩:=XV hc;rw[aid]at hv;split at hv
  .rename_i v vs1 hv1 aii;simp only[bz]at hv;subst hv;obtain⟨v',q1,q2⟩:=aif hW ht h1 hv1;obtain⟨vs',q3,q4⟩:=ih cs' vs1 h2 aii;refine⟨v'::vs',?_,.cons q2 q4⟩;simp only[List.mapM_cons,dS,q1,eX,q3,fM]
  .cases hv
def aij(hW:WR P β h w)(ht:∀i,VR β (dU ts i) (tm.getD i undef)){fn:Func}{cf:iL}(hc:xL P fn=some cf){v:ah}(hv:uj cf.results ts h=some v):
 ∃v',(results fn tm).run P w=.ok v' w/\VR β v v':=by
 unfold xL at hc;split at hc
 .rename_i body rs hb hrs;split at hc
  .cases hc
  simp only[bz]at hc;subst hc;have key:∀vs,Ab ts h rs=some vs->∃vs',aY β vs vs'/\(results fn tm).run P w=.ok (if hh:(⟨vs'⟩:Array ah).size=1 then(⟨vs'⟩:Array ah)[0]else .tuple ⟨vs'⟩) w:=λvs hvs=>by
   obtain⟨vs',q1,q2⟩:=aih hW ht fn.results.toList rs vs hrs hvs;refine⟨vs',q2,?_⟩;rw[aie,Array.mapM_eq_mapM_toList];simp only[map_eq_pure_bind,dS];rw[q1];simp only[eX,fM]
  unfold uj at hv;split at hv
  .rename_i v1 hvs;simp only[bz]at hv;subst hv;obtain⟨vs',q1,q2⟩:=key _ hvs;cases q1 with
   |cons h1 h2=>
    cases h2;exact⟨_,q2,h1⟩
  .rename_i vs hnot hvs;simp only[bz]at hv;subst hv;obtain⟨vs',q1,q2⟩:=key _ hvs;refine⟨_,q2,?_⟩;have hne:¬(⟨vs'⟩:Array ah).size=1:=by
    intro h1;have hl:vs.length=1:=by rw[<- q1.length];exact h1
    match vs,hl with
    |[x],_=>exact hnot x rfl
   rw[dif_neg hne];exact .tuple q1
  .cases hv
 .cases hc
section
variable {cf:iL} {ts:T ah} {h:IH} {K:jy->IH->Prop}
def aik(v:ah)(hv:uj cf.results ts h=some v)(hk:K (.ok v) h):Ai P cf ts [] .returning h K:=by
 intro β w F cs fn hG hW hm hd ht hf hc;obtain⟨v',q1,q2⟩:=aij hW ht hc hv;have hmode:F.mode=.returning:=by generalize F.mode=m at hm;cases hm;rfl
 have hdef:F.defers=[]:=B7
 exact⟨.ok v,h,β,w,F,.returned v',hk,hW,Eff.refl _ _ _ hW.dom,.ok q2,Steps.refl P _,rfl,rfl,hmode,hdef,fn,hf,q1⟩
def ail(ch:ae PanicEntry)(hk:K (.gT ch) h):Ai P cf ts [] (.panicking ch) h K:=by
 intro β w F cs fn hG hW hm hd ht hf hc;have hdef:F.defers=[]:=B7
 cases hmo:F.mode with
 |run=>rw[hmo]at hm;cases hm
 |returning=>rw[hmo]at hm;cases hm
 |panicking ch'=>
  rw[hmo]at hm;cases hm with
  |panicking hp=>exact⟨.gT ch,h,β,w,F,.panicked ch',hk,hW,Eff.refl _ _ _ hW.dom,.gT hp,Steps.refl P _,rfl,rfl,hmo,hdef,fn,hf⟩
variable{m:FrameMode}
def MR.X3{β:aI}{m':FrameMode}(h:MR β m m')(hm:m≠.run):m'≠.run:=by
 cases h<;>simp at hm⊢
def aim{args:Array ah}{ds:ae Deferred}(hm:m≠.run)(r:Nat)(hr:h.get r=some (.lC true))(h1:Ai P cf ts ds m (h.set r (.lC false)) K):
 Ai P cf ts ({target:=.collected r,args}::ds) m h K:=by
 intro β w F cs fn hG hW hmr hd ht hf hc;generalize hdd:F.defers=d at hd;cases hd with
 | @coll _ g _ a' _ ds' hb hl=>
   have ho:=hW.obj r g _ hb hr;have ho:w.heap[g.b]? =some (.deferred (some [])):=ho;have hlt:g.b<w.heap.size:=by
    grind
   obtain⟨z1,z2,z3⟩:=IY hlt;obtain⟨y1,y2⟩:=hW.write hb hr (.lC false) z1 z2 rfl rfl rfl (bI _) z3;have hrun:=MR.X3 hmr hm;have hstep:step P (lone F cs w)=.next (lone {F with defers:=ds'} cs (w.putObj g.b (.deferred none))):=by
    refine step_lone_go ?_;have ht:=run_takeDeferred (P:=P) ho;cases hmo:F.mode with
    |run=>exact absurd hmo hrun
    |returning=>simp[stepG,unwind,hmo,hdd,ht]
    |panicking ch=>simp[stepG,unwind,hmo,hdd,ht]
   obtain⟨rr,h',β',w',F1,r',q1,q2,q3,q4,q5,q6,q7,q8⟩:=h1 β (w.putObj g.b (.deferred none)) {F with defers:=ds'} cs fn hG y1 hmr hl ht hf hc;exact⟨rr,h',β',w',F1,r',q1,q2,y2.trans q3,q4,.head hstep q5,q6,q7,q8⟩
end
end Go.Ideal
namespace Go.Ideal
variable {P:Program}
variable{β:aI}
def qP.dropWhile{l l':ae PanicEntry}(h:qP β l l'):qP β (l.dropWhile (!·.goexit)) (l'.dropWhile (!·.goexit)):=by
 induction h with
 |nil=>exact .nil
 | @cons e e' l l' hv hr hg hl ih=>
   simp only[List.dropWhile_cons,hg];cases e.goexit with
   |true=>exact .cons hv hr hg hl
   |false=>exact ih
variable{m mr:FrameMode}
def ain(h:MR β m mr):MR β (BJ m) (settle mr):=by
 cases h with
 |run=>exact .run
 |returning=>exact .returning
 |panicking hp=>
  cases hp with
  |nil=>exact .panicking .nil
  | @cons e e' l l' hv hr hg hl=>
    obtain⟨ev,er,eg⟩:=e';cases her:e.recovered with
    |false=>
     subst hr;simp only[BJ,her,settle];exact .panicking (.cons hv her.symm hg hl)
    |true=>
     subst hr;simp only[BJ,her,settle];have hd:=hl.dropWhile;generalize l.dropWhile (!·.goexit)=x at hd;generalize l'.dropWhile (!·.goexit)=y at hd;cases hd with
     |nil=>exact .returning
     |cons a b c d=>exact .panicking (.cons a b c d)
def aio(h:MR β m mr){ch ch':ae PanicEntry}(hc:qP β ch ch'):MR β (FJ m ch) (raised mr ch'):=by
 cases h with
 |run=>exact .panicking hc
 |returning=>exact .panicking hc
 |panicking hp=>exact .panicking (hc.append hp)
def X4{β':aI}(hle:β.le β'){ts:T ah}{tm:Array ah}(h:∀i,VR β (dU ts i) (tm.getD i undef)):∀i,VR β' (dU ts i) (tm.getD i undef):=λi=>(h i).mono hle
variable{h:IH}{args:ae ah}
def aip{cf:iL}{ts:T ah}{K:jy->IH->Prop}{fn:Fn}{captured:ae ah}{ds:ae Deferred}(hm:m≠.run)(M:KR)(hc:l6 P ⟨fn,args,captured,some m⟩ h M)
 (hpm:∀r pm h',M r pm h'->pm≠none) (hok:∀v m' h',M (.ok v) (some m') h'->Ai P cf ts ds (BJ m') h' K) (lI:∀ch m' h',M (.gT ch) (some m') h'->Ai P cf ts ds (FJ m' ch) h' K):
 Ai P cf ts ({target:=.fn fn ⟨captured⟩,args:=⟨args⟩}::ds) m h K:=by
 intro β w F cs X5 hG hW hmr hd ht hf hcf;generalize hdd:F.defers=d at hd;cases hd with
 | @fn _ fn' _ c' _ a' _ ds' h1 h2 h3 hl=>
   obtain⟨nx,F0,n1,n2,n3⟩:=hc β w fn' a' c' hG hW h1 h3 h2;obtain⟨r,pm',h',β',w',r',cs1,q1,q2,q3,q4,q5,q6⟩:=n3 ({F with defers:=ds'}::cs) (by grind);cases q5 with
   |some _ m' _ _ mr X6=>
   rcases q6 with⟨f,args',F1,e1,e2,e3,e4,e5⟩|⟨e1,_⟩
   .subst e1;simp only[entry,bz]at n2;subst n2;have hrun:=MR.X3 hmr hm;have hle:=q3.le hW.dom;have s1:=step_defer (cs:=cs) hrun hdd rfl n1;have hk:=e4;cases q4 with
    | @ok v v' hv=>
      have s2:=step_going_returned (c:={{F with defers:=ds'}with mode:=mr}) (cs:=cs) hk e5;obtain⟨rr,h2',β2,w2,F2,r2,p1,p2,p3,p4,p5,p6,p7,p8⟩:=hok v m' h' q1 β' w' {{F with defers:=ds'}with mode:=settle mr} cs X5 (hG.le hle) q2 (ain X6) (hl.mono hle) (X4 hle ht) hf hcf;exact mu
    | @gT ch ch' hch=>
      have s2:=step_going_panicked (c:={{F with defers:=ds'}with mode:=mr}) (cs:=cs) e5;obtain⟨rr,h2',β2,w2,F2,r2,p1,p2,p3,p4,p5,p6,p7,p8⟩:=lI ch m' h' q1 β' w' {{F with defers:=ds'}with mode:=raised mr ch'} cs X5 (hG.le hle) q2 (aio X6 hch) (hl.mono hle) (X4 hle ht) hf hcf;exact mu
   .cases e1.1
variable{q:bD}
def F9{K:KR}(M:KR)(hc:l6 P q h M)(hk:∀r pm h',M r pm h'->K r pm h'):l6 P q h K:=by
 intro β w fn' args' cap' hG hW hf ha hcap;obtain⟨nx,F0,n1,n2,n3⟩:=hc β w fn' args' cap' hG hW hf ha hcap;refine⟨nx,F0,n1,n2,λcs0 hcs=>?_⟩;obtain⟨r,pm',h',β',w',r',cs1,q1,q2,q3,q4,q5,q6⟩:=n3 cs0 hcs
 grind
variable{f:fI}
def NF{t:aF}{v:ah}{name:String}{r:ah}(h:FK P t v name=some (f,r)):r=v/\∀(n:Nat) (v':ah) (w:World),(method (n+1) t v' name).run P w=.ok (f,v') w:=by
 unfold FK at h;split at h
 .cases h
 .rename_i info hi;split at h
  .cases h
  .rename_i m hm;split at h
   .cases h
   .have hp0:m.path= #[]:=(by grind)
    split at h
    .rename_i f0 ptr hfn;have X7:∀(v':ah) (w:World),(follow m.path.toList t (.val v')).run P w=.ok (t,.val v') w:=λv' w=>by rw[hp0];rfl
     split at h
     .rename_i e hu;obtain⟨rfl,rfl⟩:=h;refine⟨rfl,λn v' w=>?_⟩;simp only[method,dS,II hi,eX,hm,X7,hfn,receiverAt,gU hu,Place.get,fM]
     .cases h
     .rename_i d hnp hu;obtain⟨rfl,rfl⟩:=h;refine⟨rfl,λn v' w=>?_⟩;simp only[method,dS,II hi,eX,hm,X7,hfn,receiverAt,gU hu];cases d<;>first|rfl|exact absurd rfl (hnp _)
     .cases h
    .cases h
def BZ(ht:target P q=some (f,args)){β:aI}{fn':Fn}{args' cap':ae ah}(hf:FR β q.fn fn')(ha:aY β q.args args')(hc:aY β q.captured cap'){fn:Func}(hfn:P.funcs[f]? =some fn){body:Code}(hb:fn.body=some body)
 (hname:fn.name≠ "runtime.NumGoroutine") (w:World):∃jQ,(invoke (.fn fn' ⟨cap'⟩) ⟨args'⟩).run P w=.ok (.enter f ⟨jQ⟩) w/\aY β args jQ:=by
 have hcall:∀(xs:Array ah),(callFunc f xs).run P w=.ok (.enter f xs) w:=λxs=>by
  exact iu
 have av6:∀(t:aF) (v v' r:ah) (name:String) (xs:ae ah),FK P t v name=some (f,r)->(callMethod (.iface t v') name ⟨xs⟩).run P w=.ok (.enter f ⟨v'::xs⟩) w:=λt v v' r name xs hm=>by
  obtain⟨_,h2⟩:=NF hm;have hd:P.types.size+Made.depth=(P.types.size+(Made.depth - 1))+1:=rfl;have he:(#[v']:Array ah)++(⟨xs⟩:Array ah)=⟨v'::xs⟩:=vi
  simp only[callMethod,dS,run_program,eX,hd,h2,he];exact hcall _
 unfold target at ht;cases Sg:q.fn with
 |func f0=>
  rw[Sg]at ht hf;simp only[bz,kL]at ht;obtain⟨rfl,rfl⟩:=ht;cases hf;refine⟨args'++cap',?_,by rw[jO];exact ha.append hc⟩;have:(⟨args'⟩:Array ah)++(⟨cap'⟩:Array ah)=⟨args'++cap'⟩:=vi
  simp only[invoke,this];exact hcall _
 |method name=>
  rw[Sg]at ht hf;simp only at ht;cases hf;split at ht
  .rename_i t v as Si;split at ht
   .rename_i f1 r hm;simp only[bz,kL]at ht;obtain⟨rfl,rfl⟩:=ht;rw[Si]at ha;cases ha with
    | @cons _ x' _ as' hv hl=>
      obtain⟨v',hv',rfl⟩:=hv.DU;obtain⟨rfl,_⟩:=NF hm;refine⟨v'::as',?_,.cons hv' hl⟩;have h0:(⟨Value.iface t v'::as'⟩:Array ah)[0]? =some (.iface t v'):=rfl;have h1:(⟨Value.iface t v'::as'⟩:Array ah).extract 1 (⟨Value.iface t v'::as'⟩:Array ah).size=⟨as'⟩:=by grind
      simp only[invoke,h0,h1]
      grind
   .cases ht
  .cases ht
 |methodOf t name=>
  rw[Sg]at ht hf;simp only at ht;cases hf;split at ht
  .rename_i x as Si;rw[Si]at ha;cases ha with
   | @cons _ x' _ as' hv hl=>
     have h0:(⟨x'::as'⟩:Array ah)[0]? =some x':=rfl;have h1:(⟨x'::as'⟩:Array ah).extract 1 (⟨x'::as'⟩:Array ah).size=⟨as'⟩:=by grind
     split at ht
     .rename_i ms hu;split at ht
      .rename_i t2 v;split at ht
       .rename_i f1 r hm;simp only[bz,kL]at ht;obtain⟨rfl,rfl⟩:=ht;obtain⟨v',hv',rfl⟩:=hv.DU;obtain⟨rfl,_⟩:=NF hm;refine⟨v'::as',?_,.cons hv' hl⟩;simp only[invoke,h0,h1,dS,gU hu,eX]
        grind
       .cases ht
      .cases ht
     .rename_i d hni hu;split at ht
      .rename_i f1 r hm;simp only[bz,kL]at ht;obtain⟨rfl,rfl⟩:=ht;obtain⟨rfl,_⟩:=NF hm;refine⟨x'::as',?_,.cons hv hl⟩;simp only[invoke,h0,h1,dS,gU hu,eX]
       grind
      .cases ht
     .cases ht
  .cases ht
 |via t p f0 b=>grind
 |yield l=>grind
end Go.Ideal
namespace Go.Ideal
variable {P:Program}
def air(v:ah)(l:ae ah)(i:Nat)(t:T ah):Aa (v::l) i t=Aa l (i+1) (t.set i (some v)):=rfl
def X8:∀(l:ae ah) (i:Nat) (t:T ah) (j:Nat),dU (Aa l i t) j=if i<=j/\j<i+l.length then l.getD (j - i) eO else dU t j:=by
 intro l;induction l with
 |nil=>intro i t j;rw[if_neg tg];rfl
 |cons v l ih=>
  intro i t j;rw[air,ih,FO]
  grind
def X9(a b:Nat):uh a b=max a b:=by
 unfold uh;cases hb:Nat.ble a b with
 |true=>have:=mG hb;show b=_;omega
 |false=>
  have:¬a<=b:=λhh=>by rw[MP hh]at hb;cases hb
  show a=_;omega
def ais{β:aI}{n:Nat}{args jQ:ae ah}(h:aY β args jQ)(pm:ak FrameMode):AR β none' (DI n args pm) ((⟨jQ⟩:Array ah)++Array.replicate (n - jQ.length) undef) []:=by
 have hlen:=h.length;refine⟨?_,λi _=>?_,λi hi=>?_,.nil⟩
 .show _=uh n (jq args);rw[X9,xO];simp;omega
 .show VR β (dU (Aa args 0 .leaf) i) _;rw[X8];by_cases hi:i<args.length
  .rw[if_pos ⟨tf,tf⟩];obtain⟨v',h1,h2⟩:=h.get (bY hi);have e1:args.getD (i - 0) eO=args[i]:=by simp[hi]
   rw[e1,zY,Array.getElem?_append_left tx];have:(⟨jQ⟩:Array ah)[i]? =some v':=tU
   rw[this];exact h2
  .rw[if_neg tf];exact .eO _
 .show dU (Aa args 0 .leaf) i=eO;have:uh n (jq args)<=i:=hi;rw[X9,xO]at this;rw[X8,if_neg tf];rfl
def ait{q:bD}{h:IH}{K:KR}(f:fI)(args:ae ah)(ht:target P q=some (f,args))(fn:Func)(hf:P.funcs[f]? =some fn)(cf:iL)(hcf:xL P fn=some cf)(M:KO)(h1:nE P cf.body (DI cf.ntmps args q.pm) h M)
 (h2:∀o a' h',M o a' h'->xM o≠none) (h3:∀o a' h' m,M o a' h'->xM o=some m->Ai P cf a'.tmps a'.defers m h' λr h''=>K r a'.pm h''):l6 P q h K:=by
 intro β w fn' args' cap' hG hW hfr ha hcap;have aiu:=hcf;unfold xL at hcf;split at hcf
 .rename_i body rs hb hrs;split at hcf
  .cases hcf
  rename_i hname;simp only[bz]at hcf;subst hcf;obtain⟨jQ,t1,t2⟩:=BZ ht hfr ha hcap hf hb hname w;refine⟨_,Frame.enter P f ⟨jQ⟩ (kindOf q.pm),t1,rfl,λcs0 wJ=>?_⟩;let b:={(default:Frame)with fn:=f,kind:=kindOf q.pm}
  have hent:Frame.enter P f ⟨jQ⟩ (kindOf q.pm)=fr b ((⟨jQ⟩)++Array.replicate (fn.ntmps - jQ.length) undef) [] [.code body]:=by
   simp[Frame.enter,hf,hb,b];rfl
  have hcx:CX P β q.pm none b cs0:=⟨⟨fn,hf⟩,.inl ⟨rfl,rfl⟩,rfl,wJ⟩
  obtain⟨o,a',h',β',w',tm',iF,cs',q1,q2,q3,q4,q5,q6,q7⟩:=h1 body _ rfl (.inl rfl) β w b _ [] [] cs0 hG hW (ais t2 q.pm) hcx;rw[<- hent]at q7;have hle:=q3.le hW.dom;have leave:∀(m:FrameMode) (F:Frame),xM o=some m->MR β' m F.mode->F.defers=iF->F.tmps=tm'->F.fn=f->F.kind=kindOf q.pm->Steps P (lone (Frame.enter P f ⟨jQ⟩ (kindOf q.pm)) cs0 w) (lone F cs' w')->
   ∃r pm' h' β' w' r' cs1,K r pm' h'/\WR P β' h' w'/\Eff β h w β' h' w'/\RR β' r r'/\qz β' q.pm pm' cs0 cs1/\
   ((∃f1 aiv F1,Next.enter f ⟨jQ⟩=.enter f1 aiv/\Steps P (lone (Frame.enter P f ⟨jQ⟩ (kindOf q.pm)) cs0 w) (lone F1 cs1 w')/\F1.fn=f1/\F1.kind=kindOf q.pm/\F1.going P w' r')\/
    ((q.pm=none/\∃l,q.fn=.yield l)/\∀c rest,cs1=c::rest->Steps P (lone (Frame.enter P f ⟨jQ⟩ (kindOf q.pm)) cs0 w) (lone (recv c r') rest w'))):=by
   intro m F hm hmr hdf htm hfn hkd hst;obtain⟨r,h2',β2,w2,F1,r',p1,p2,p3,p4,p5,p6,p7,p8⟩:=h3 o a' h' m q1 hm β' w' F cs' fn (hG.le hle) q2 hmr (by rw[hdf];exact q4.defers) (λi=>by rw[htm];exact q4.tmps i λhh=>hh) (by rw[hfn];exact hf) aiu;exact⟨r,a'.pm,h2',β2,w2,r',cs',p1,p2,q3.trans p3,p4,q5.mono (p3.le q2.dom),.inl ⟨f,⟨jQ⟩,F1,rfl,hst.trans p5,by rw[p7,hfn],by rw[p6,hkd],p8⟩⟩
  cases o with
  |normal=>exact leave .returning {fr b tm' iF []with mode:=.returning} rfl .returning rfl rfl rfl rfl (Steps.trans q7 (.one (ahg rfl)))
  |exit id=>exact absurd rfl (h2 _ _ _ q1)
  |ret=>
   obtain⟨todo,e2⟩:=q7;exact leave .returning {fr b tm' iF (.code .ret::todo)with mode:=.returning} rfl .returning rfl rfl rfl rfl (Steps.trans e2 (.one (ahf rfl)))
  |panic ch=>
   obtain⟨todo,ch',e1,e2⟩:=q7;exact leave (.panicking ch) {fr b tm' iF todo with mode:=.panicking ch'} rfl (.panicking e1) rfl rfl rfl rfl e2
 .cases hcf
end Go.Ideal
namespace Go.Ideal
variable {P:Program}
mutual
def VR.restrict{β β':aI}(hle:β.le β'):∀{v v0 v':ah},VR β v v0->VR β' v v'->VR β v v'
 |_,_,_,.eO _,_=>.eO _
 |_,_,_,.skip,k=>by cases k;exact .skip
 |_,_,_,.bool _,k=>by cases k;exact .bool _
 |_,_,_,.int _ _,k=>by cases k;exact .int _ _
 |_,_,_,.float _ _,k=>by cases k;exact .float _ _
 |_,_,_,.complex _ _ _,k=>by cases k;exact .complex _ _ _
 |_,_,_,.string _,k=>by cases k;exact .string _
 |_,_,_,.nilFunc,k=>by cases k;exact .nilFunc
 |_,_,_,.nilIface,k=>by cases k;exact .nilIface
 |_,_,_,.BM,k=>by cases k;exact .BM
 |_,_,_,.ptr hi,k=>by
  obtain⟨g,h1,rfl⟩:=k.xS;rw[hle _ _ hi]at h1;cases h1;exact .ptr hi
 |_,_,_,.sl0 _ _,k=>by cases k;exact .sl0 _ _
 |_,_,_,.ay hi hb hn ha,k=>by
  obtain⟨g,a,c',q1,rfl,q3,q4,q5,q6,q7,q8⟩:=k.nU;rw[hle _ _ hi]at q1;cases q1;rcases q8 with⟨_,rfl⟩|⟨q8,r1,_,_⟩
  .exact .ay hi q3 q5 q7
  grind
 |_,_,_,.qf hi hb hs hn hz hl ht hc ha,k=>by
  obtain⟨g,a,c',q1,rfl,q3,q4,q5,q6,q7,q8⟩:=k.nU;rw[hle _ _ hi]at q1;cases q1;rcases q8 with⟨q8,_⟩|⟨_,_,r2,r3,r4⟩
  .grind
  .exact .qf hi q3 r4 q5 hz r2 r3 q6 (q7.imp id (·.1))
 |_,_,_,.Ae,k=>by cases k;exact .Ae
 |_,_,_,.map hi,k=>by
  obtain⟨g,h1,rfl⟩:=k.FX;rw[hle _ _ hi]at h1;cases h1;exact .map hi
 |_,_,_,.func hf h1 h2,k=>by
  obtain⟨fn',f',c',k1,k2,k3,rfl⟩:=k.BQ;refine .func ?_ (aY.restrict hle h1 k2) (aY.restrict hle h2 k3);cases hf with
  |func f=>cases k1;exact .func f
  |method n=>cases k1;exact .method n
  |methodOf t n=>cases k1;exact .methodOf t n
  |yield hl=>cases k1 with|yield hl'=>rw[hle _ _ hl]at hl';cases hl';exact .yield hl
 |_,_,_,.iface t hv,k=>by
  obtain⟨u',k1,rfl⟩:=k.DU;exact .iface t (VR.restrict hle hv k1)
 |_,_,_,.agg hc hl,k=>by
  obtain⟨l',k1,_,rfl⟩:=k.Ro;exact .agg hc (aY.restrict hle hl k1)
 |_,_,_,.tuple hl,k=>by
  cases k with
  |eO=>cases hl;exact .eO _
  |tuple k1=>exact .tuple (aY.restrict hle hl k1)
def aY.restrict{β β':aI}(hle:β.le β'):∀{v v0 v':ae ah},aY β v v0->aY β' v v'->aY β v v'
 |_,_,_,.nil,k=>by cases k;exact .nil
 |_,_,_,.cons hv hl,k=>by
  cases k with
  |cons k1 k2=>exact .cons (VR.restrict hle hv k1) (aY.restrict hle hl k2)
end
def iy.restrict{β β':aI}(hle:β.le β'){l l0 l':ae MapEntry}(h:iy β l l0)(k:iy β' l l'):iy β l l':=by
 induction h generalizing l' with
 |nil=>cases k;exact .nil
 |cons hk hf hb hv hl ih=>
  cases k with
  |cons hk' hf' hb' hv' hl'=>exact .cons hk' hf' hb' (hv.restrict hle hv') (ih hl')
def OR.restrict{β β':aI}(hle:β.le β'){g:jf}{w w':World}{o:aN}(h:OR P β g w o)(k:OR P β' g w' o):OR P β g w' o:=by
 cases o with
 |cells cs=>
  obtain⟨_,_,_,_,_,a7⟩:=h;obtain⟨b1,b2,b3,b5,b6,b7⟩:=k;refine⟨b1,b2,b3,b5,b6,λj v hj=>?_⟩;exact nj
 |kR cs=>
  obtain⟨_,_,_,a7⟩:=h;obtain⟨b1,b2,b6,b7⟩:=k;refine⟨b1,b2,b6,λj v hj=>?_⟩;exact nj
 |map es clock=>
  obtain⟨es0,_,h0⟩:=h;obtain⟨es',h1,h2⟩:=k;exact⟨es',h1,h0.restrict hle h2⟩
 |DC s pos=>exact k
 |mapIter m since seen stepped=>
  obtain⟨m0,s0,_,_,h0,_⟩:=h;obtain⟨m',s',h1,h2,h3,h4⟩:=k;exact⟨m',s',h1,h2,h0.restrict hle h3,h4⟩
 |loop r=>
  obtain⟨r0,_,h0⟩:=h;obtain⟨r',h1,h2⟩:=k;obtain⟨g0,e1,_⟩:=h0.defers;obtain⟨g1,e2,e3⟩:=h2.defers;rw[hle _ _ e1]at e2;cases e2;exact⟨r',h1,⟨h2.state,h2.pending,h2.IG,h2.size,λi=>(h0.tmps i).restrict hle (h2.tmps i),h2.out,h2.params,h2.assign,h2.body,⟨_,e1,e3⟩,h2.FQ⟩⟩
 |lC b=>exact k
def WR.low{β:aI}{h:IH}{w:World}(hW:WR P β h w)(n:Nat):WR P β {h with low:=n} w:=⟨hW.dom,hW.live,hW.obj,hW.inj⟩
def aix{q:bD}{h:IH}{K:KR}(cs:ae ah)(n f:Nat)(hcs:gJ cs=true)(hne:cs≠[])(hf:f=0\/cs.length=n*f)(M:KR)(hc:l6 P q {h with low:=h.next} M)(hq:q.pm=none)
 (h1:∀r pm h',M r pm h'->pm=none/\h'.low=h.next/\∃i o c,r=.ok (.slice (some ⟨i,o,some f⟩) n c)/\h.next<=i/\(f=0->c=n)/\h'.qa i o cs.length=some cs)
 (hk:K (.ok (.slice (some ⟨h.next,0,some f⟩) n n)) none (h.new (.cells cs))):l6 P q h K:=by
 intro β w fn' args' cap' hG hW hfr ha hcap;obtain⟨nx,F0,n1,n2,n3⟩:=hc β w fn' args' cap' hG (hW.low _) hfr ha hcap;refine⟨nx,F0,n1,n2,λcs0 wJ=>?_⟩;obtain⟨r,pm',h',β',w',r',cs1,q1,q2,q3,q4,q5,q6⟩:=n3 cs0 wJ;obtain⟨hpm,hlow,i,o,c,rfl,hi,hfc,hcells⟩:=h1 r pm' h' q1;subst hpm;cases q4 with
 | @ok v v' hv=>
   obtain⟨g,a,c',hg,hv',ha1,ha2,hn,hcc,hoff,hkind⟩:=hv.nU;obtain⟨cells,hget,htake⟩:=Xj hcells;rw[o9,o8]at htake;split at htake
   .rename_i hle;simp only[bz]at htake;obtain⟨o1,o2,o3,o5,o6,o7⟩:=q2.obj i g _ hg hget;let g1:jf:=⟨g.b,g.off+o,cs.length,g.top,g.sz⟩
    let β2:aI:=λj=>if j<h.next then β j else if j=h.next then some g1 else none
    have hb2:∀j k,β2 j=some k->(j<h.next/\β j=some k/\β' j=some k)\/(j=h.next/\k=g1):=λj k hk=>by
     simp only[β2]at hk;split at hk
     .rename_i hj;exact .inl ⟨hj,hk,(q3.agree j hj).trans hk⟩
     grind
    have hold:∀j,j<h.next->h'.get j=h.get j:=λj hj=>q3.kept j (by rw[hlow];exact hj) hj
    have hnew:∀j,(h.new (.cells cs)).get j=if j=h.next then some (.cells cs)else h.get j:=λj=>IH.jA _ _ _
    have hle2:β.le β2:=λj k hk=>by
     have:=hW.dom j k hk
     grind
    have Ya:∀(j:Nat) v,cs[j]? =some v->cB v=true:=λj v hj=>by
     have:∀(l:ae ah),gJ l=true->∀v∈l,cB v=true:=by
      intro l;induction l with
      |nil=>grind
      |cons x l ih=>
       intro hl v hv;simp[gJ]at hl
       grind
     exact this cs hcs v (by grind)
    have aiy:∀(j:Nat) v,cs[j]? =some v->w'.cell? ⟨g.b,g.off+o+j,none⟩=some v:=λj v hj=>by
     have hj2:cells[o+j]? =some v:=by
      grind
     obtain⟨v',t1,t2⟩:=o7 (o+j) v hj2;rw[t2.qO (Ya j v hj)]at t1
     grind
    have hlen:o+cs.length<=cells.length:=by
     simp at hle;have h0:0<cs.length:=(by grind)
     omega
    have hOR:OR P β2 g1 w' (.cells cs):=⟨o1,rfl,by grind,o5,xP hcs,λj v hj=>⟨v,aiy j v hj,VR.free (Ya j v hj)⟩⟩
    have hW2:WR P β2 (h.new (.cells cs)) w':=by
     refine⟨?_,?_,?_,?_⟩
     .intro j k hk;show j<h.next+1
      grind
     .intro j x hx;show j<h.next+1
      rw[hnew]at hx;split at hx
      .omega
      .have:=hW.live j x hx;omega
     .intro j k x hk hx;rw[hnew]at hx;rcases hb2 j k hk with⟨hj,hb,hb'⟩|⟨hj,rfl⟩
      .rw[if_neg tf]at hx;have hx':h'.get j=some x:=by grind
       exact((hW.obj j k x hb hx).restrict (q3.le hW.dom) (q2.obj j k x hb' hx')).mono hle2
      grind
     .intro j l k m hk hm hj hl hr he;rw[hnew]at hj hl;rcases hb2 j k hk with⟨hjn,_,hb'⟩|⟨hjn,rfl⟩
      .rw[if_neg tf]at hj;rcases hb2 l m hm with⟨hln,_,Sj⟩|⟨hln,rfl⟩
       .rw[if_neg tf]at hl;exact q2.inj j l k m hb' Sj (by grind) (by grind) (by grind) he
       .have:=q2.inj j i k g hb' hg (by grind) AG (by grind) he;omega
      .rcases hb2 l m hm with⟨hln,_,Sj⟩|⟨hln,rfl⟩
       .rw[if_neg tf]at hl;have:=q2.inj l i m g Sj hg (by grind) AG (by grind) he.symm;omega
       .omega
    have Yb:β2 h.next=some g1:=by grind
    have hE:Eff β h w β2 (h.new (.cells cs)) w':=
     {agree:=(by grind)
      next:=Dl _
      alive:=(by grind)
      hid:=(by grind)
      low:=bI _
      kept:=(by grind)
      os:=q3.os,tape:=q3.tape,output:=q3.output,drawn:=q3.drawn,size:=q3.size,keep:=q3.keep
      uX:=λj k _ hj hk hn hb=>q3.uX j k (by rw[hlow];exact hj) hj hk hn hb
      fresh:=λj k hk hj=>by
       rcases hb2 j k hk with⟨hjn,_⟩|⟨_,rfl⟩
       .omega
       .exact q3.fresh i g hg hi}
    have hVR:VR β2 (.slice (some ⟨h.next,0,some f⟩) n n) v':=by
     subst hv';rcases hkind with⟨e1,e2⟩|⟨e1,e2,e3,e4,e5⟩
     .simp only[bz]at e1;have:=hfc e1;subst e1 e2 this;exact .ay Yb ha1 (bI _) (by
       grind)
     .simp only[bz]at e1;subst e1;have hcl:cs.length=n*g.sz:=(by grind)
      exact .qf (g:=g1) Yb ha1 e5 (bI _) e2 (by grind) (by grind) (lV hn hcc) (by
       grind)
    exact⟨_,none,_,β2,w',.returned v',cs1,hk,hW2,hE,.ok hVR,by rw[hq]at q5⊢;cases q5;exact .none _,by
     grind⟩
   .cases htake
end Go.Ideal
namespace Go.Ideal
variable {P:Program}
def aiA{β:aI}{n:Nat}:∀(ps:ae Tmp) (args jQ:ae ah) (t:T ah) (tm:Array ah),args.length=ps.length->aY β args jQ->tm.size=n->(∀i,VR β (dU t i) (tm.getD i undef))->(∀i,n<=i->dU t i=eO)->
 (((ps.zip jQ).foldl (λtmps (x:Tmp×ah)=>tmps.setIfInBounds x.1 x.2) tm).size=n/\(∀i,VR β (dU (BK n ps args t) i) (((ps.zip jQ).foldl (λtmps (x:Tmp×ah)=>tmps.setIfInBounds x.1 x.2) tm).getD i undef))/\∀i,n<=i->dU (BK n ps args t) i=eO):=by
 intro ps;induction ps with
 |nil=>
  intro args jQ t tm hl ha hs hv ho;cases args with
  |nil=>exact⟨hs,hv,ho⟩
  |cons v args=>simp at hl
 |cons p ps ih=>
  intro args jQ t tm hl ha hs hv ho;cases args with
  |nil=>simp at hl
  |cons v args=>
   cases ha with
   | @cons _ v' _ jQ h1 h2=>
     refine ih args jQ _ (tm.setIfInBounds p v') (by simpa using hl) h2 (by simpa using hs) (λi=>?_) (λi hi=>?_)
     .cases hb:Nat.blt p n with
      |true=>
       have hlt: @LT.lt Nat _ p n:=tW
       simp only[cond_true];rw[FO,Nt tm p v' i tf]
       grind
      |false=>
       have hge:n<=p:=by
        rcases MS p n with hh|hh
        .have:Nat.blt p n=true:=by simpa[vY]using hh
         grind
        .exact hh
       grind
     .cases hb:Nat.blt p n with
      |true=>
       have hlt: @LT.lt Nat _ p n:=tW
       simp only[cond_true];rw[FO,if_neg tf];exact ho i hi
      |false=>exact ho i hi
section
variable {b:Frame} {tm:Array ah} {df:ae Deferred} {k:ae Item} {cs:ae Frame} {w:World}
variable{l:Nat}{r:Loop}
def aiB(hb:b.roundOf=some l)(h:w.heap[l]? =some (.loop r))(hr:r.state=.ready):
 step P (lone (fr b tm df (.beginRound::k)) cs w)=.next (lone (fr b tm df k) cs (w.putObj l (.loop {r with state:=.busy}))):=by
 have h1:=run_beginRound (P:=P) h hr;refine step_lone_go ?_;simp[stepG,stepG.exec,fr,hb,stepG.apply,h1,Frame.finish]
def aiC{todo:ae Item}(hb:b.roundOf=some l)(hk:b.kind=.normal)(h:w.heap[l]? =some (.loop r))(jump:ak Code)
 (ht:(todo=[]/\jump=none)\/(∃t,todo=.code .ret::t/\jump=some .ret)\/∃id t,todo=.code (.exit id)::t/\exitTo id t=none/\jump=some (.exit id)) (c:Frame):
 step P (lone (fr b tm df todo) (c::cs) w)=.next (lone (c.finish (.bool jump.isNone)) cs (w.putObj l (.loop {r with state:=if jump.isNone then .ready else .done,pending:=jump}))):=by
 have h1:=run_endRound (P:=P) jump h;refine step_lone_go ?_;rcases ht with⟨rfl,rfl⟩|⟨t,rfl,rfl⟩|⟨id,t,rfl,he,rfl⟩
 .simp[stepG,stepG.exec,fr,hb,h1,doReturn,hk]
 .simp[stepG,stepG.exec,fr,hb,h1,doReturn,hk]
 .simp[stepG,stepG.exec,fr,hb,h1,doReturn,hk,he]
end
end Go.Ideal
namespace Go.Ideal
variable {P:Program}
def Sk{w:World}{l:Nat}{o:Obj}(hl:l<w.heap.size):(w.putObj l o).heap.size=w.heap.size/\(∀b,b≠l->(w.putObj l o).heap[b]? =w.heap[b]?)/\(w.putObj l o).heap[l]? =some o:=IY hl
def aiD{q:bD}{h:IH}{K:KR}(l:Nat)(hq:q.fn=.yield l)(hpm:q.pm=none)(r:qy)(hr:h.get l=some (.loop r))(hargs:q.args.length=r.params.length)
 (M:KO) (h1:nE P r.assign {n:=r.n,tmps:=BK r.n r.params q.args r.tmps,defers:=[],pm:=none,ro:=some l} h M)
 (h2:∀o a' h',M o a' h'->o=.normal/\∃r1,h'.get l=some (.loop r1)/\r1.state=.ready)
 (h3:∀a' h' r1,M .normal a' h'->h'.get l=some (.loop r1)->nE P r.body a' (h'.set l (.loop {r1 with state:=.busy})) λo a'' h''=>∃r2,h''.get l=some (.loop r2)/\a''.defers=[]/\
   match o with
   | .panic ch=>K (.gT ch) none h''
   | .normal=>K (.ok (.bool true)) none (h''.set l (.loop {r2 with state:=.ready,pending:=none}))
   |o=>K (.ok (.bool false)) none (h''.set l (.loop {r2 with state:=.done,pending:=some o}))):l6 P q h K:=by
 intro β w fn' args' cap' hG hW hfr ha hcap;rw[hq]at hfr;cases hfr with
 | @yield _ g hg=>
 obtain⟨r',o1,L⟩:=hW.obj l g _ hg hr;have hsz:(⟨args'⟩:Array ah).size=r'.params.size:=by
  have e1:args'.length=q.args.length:=ha.length;have e2:r'.params.size=r.params.length:=by rw[<- L.params];simp
  grind
 refine⟨_,_,by
  show(Instr.yield g.b ⟨args'⟩).run P w=_;exact run_yield o1 hsz,rfl,λcs0 _=>?_⟩
 rw[hpm];have Rs:(r'.params.zip (⟨args'⟩:Array ah)).foldl (λtmps (x:Tmp×ah)=>tmps.setIfInBounds x.1 x.2) r'.tmps=(r.params.zip args').foldl (λtmps (x:Tmp×ah)=>tmps.setIfInBounds x.1 x.2) r'.tmps:=by
  rw[<- Array.foldl_toList,Array.toList_zip,L.params]
 obtain⟨t1,t2,t3⟩:=aiA (β:=β) (n:=r.n) r.params q.args args' r.tmps r'.tmps hargs ha L.size L.tmps L.out;rw[<- Rs]at t1 t2;let b:Frame:={(default:Frame)with fn:=r'.fn,kind:=.normal,roundOf:=some g.b}
 have hcx:CX P β none (some l) b cs0:=⟨L.FQ,(by grind),rfl,λm hm=>by cases hm⟩
 have hA:AR β none' {n:=r.n,tmps:=BK r.n r.params q.args r.tmps,defers:=[],pm:=none,ro:=some l} ((r'.params.zip (⟨args'⟩:Array ah)).foldl (λtmps (x:Tmp×ah)=>tmps.setIfInBounds x.1 x.2) r'.tmps) []:=
  ⟨t1,λi _=>t2 i,t3,.nil⟩
 obtain⟨o,a',h',β',w',tm',iF,cs',q1,q2,q3,q4,q5,q6,q7⟩:=h1 r'.assign _ L.assign (.inl rfl) β w b _ [] [.beginRound,.code r'.body] cs0 hG hW hA hcx;obtain⟨rfl,r1,hr1,hst⟩:=h2 o a' h' q1;have hle:=q3.le hW.dom;have hg':=hle _ _ hg;obtain⟨r1',o2,L1⟩:=q2.obj l g _ hg' hr1;have hlt1:g.b<w'.heap.size:=by
  grind
 obtain⟨z1,z2,z3⟩:=Sk (w:=w') (o:=.loop {r1' with state:=.busy}) hlt1;obtain⟨y1,y2⟩:=q2.write hg' hr1 (.loop {r1 with state:=.busy}) z1 z2 rfl rfl rfl (bI _) ⟨_,z3,{L1 with state:=rfl}⟩;have Sl:a'.pm=none:=by
  have h5:=q5;generalize a'.pm=x at h5;cases h5;rfl
 have s1:Steps P (lone (Frame.round g.b r'.fn ((r'.params.zip (⟨args'⟩:Array ah)).foldl (λtmps (x:Tmp×ah)=>tmps.setIfInBounds x.1 x.2) r'.tmps) r'.assign r'.body .normal) cs0 w) (lone (fr b tm' iF [.code r'.body]) cs' (w'.putObj g.b (.loop {r1' with state:=.busy}))):=by
  refine Steps.trans q7 (.one (aiB rfl o2 (by rw[L1.state];exact hst)))
 have hcs':cs'=cs0:=by
  have h5:=q5;rw[Sl]at h5;cases h5;rfl
 subst hcs';have aiE:CX P β' a'.pm a'.ro b cs':=by
  rw[Sl,q6];exact⟨L.FQ,(by grind),rfl,λm hm=>by cases hm⟩
 obtain⟨Yc,a2,h4,β2,w2,Yd,df2,cs2,p1,p2,p3,p4,p5,p6,p7⟩:=h3 a' h' r1 q1 hr1 r'.body _ L.body (.inl rfl) β' _ b tm' iF [] cs' (hG.le hle) y1 q4 aiE;obtain⟨r2,hr2,hdf,hK⟩:=p1;have hle2:=p3.le y1.dom;have hg2:=hle2 _ _ hg';have hcs2:cs2=cs'/\a2.pm=none:=by
  have h5:=p5;rw[Sl]at h5;generalize a2.pm=x at h5;cases h5;exact⟨rfl,rfl⟩
 obtain⟨rfl,av8⟩:=hcs2;obtain⟨r2',o3,L2⟩:=p2.obj l g _ hg2 hr2;have hlt2:g.b<w2.heap.size:=by
  grind
 have aiF:df2=[]:=by
  have h5:=p4.defers;rw[hdf]at h5;cases h5;rfl
 have hE:Eff β h w β2 h4 w2:=(q3.trans y2).trans p3;by_cases lI:∃ch,Yc=.panic ch
 .obtain⟨ch,rfl⟩:=lI;obtain⟨todo,ch',e1,e2⟩:=p7;refine⟨.gT ch,none,h4,β2,w2,.panicked ch',cs2,hK,p2,hE,.gT e1,.none _,.inr ⟨⟨rfl,l,hq⟩,λc rest hc=>?_⟩⟩;subst hc;refine(s1.trans e2).trans (.one ?_);obtain⟨fn,hfn⟩:=L.FQ;subst aiF;exact step_leave_panicked ⟨rfl,rfl,fn,hfn⟩
 .have key:∃(jump:ak Code) (out:ak Out) (todo:ae Item),jump=out.bind Xg/\(∀ch,out≠some (.panic ch))/\jump.isNone=out.isNone/\
   ((todo=[]/\jump=none)\/(∃t,todo=.code .ret::t/\jump=some .ret)\/∃id t,todo=.code (.exit id)::t/\exitTo id t=none/\jump=some (.exit id))/\
   Steps P (lone (fr b tm' iF [.code r'.body]) cs2 (w'.putObj g.b (.loop {r1' with state:=.busy}))) (lone (fr b Yd df2 todo) cs2 w2)/\
   K (.ok (.bool out.isNone)) none (h4.set l (.loop {r2 with state:=if out.isNone then .ready else .done,pending:=out})):=by
   cases Yc with
   |panic ch=>grind
   |normal=>exact⟨none,none,[],rfl,tg,rfl,.inl ⟨rfl,rfl⟩,p7,hK⟩
   |exit id=>
    obtain⟨todo,e1,e2⟩:=p7;exact⟨some (.exit id),some (.exit id),_,rfl,tg,rfl,.inr (.inr ⟨id,todo,rfl,e1,rfl⟩),e2,hK⟩
   |ret=>
    obtain⟨todo,e2⟩:=p7;exact⟨some .ret,some .ret,_,rfl,tg,rfl,(by grind),e2,hK⟩
  obtain⟨jump,out,todo,k1,k2,k3,k4,k5,k6⟩:=key;obtain⟨x1,x2,x3⟩:=Sk (w:=w2) (o:=.loop {r2' with state:=if jump.isNone then .ready else .done,pending:=jump}) hlt2;obtain⟨u1,u2⟩:=p2.write hg2 hr2 (.loop {r2 with state:=if out.isNone then .ready else .done,pending:=out}) x1 x2 rfl rfl rfl (bI _) ⟨_,x3,{L2 with state:=by rw[k3],pending:=k1,IG:=k2}⟩;refine⟨_,none,_,β2,_,.returned (.bool out.isNone),cs2,k6,u1,hE.trans u2,.ok (.bool _),.none _,.inr ⟨⟨rfl,l,hq⟩,λc rest hc=>?_⟩⟩;subst hc;refine(s1.trans k5).trans (.one ?_);have:=aiC (P:=P) (tm:=Yd) (df:=df2) (cs:=rest) (b:=b) rfl rfl o3 jump k4 c;rw[k3]at this;rw[k3];exact this
end Go.Ideal
namespace Go.Ideal
variable {P:Program}
section
variable {b:Frame} {tm:Array ah} {df:ae Deferred} {k:ae Item} {cs:ae Frame} {w:World}
variable{l:Nat}
def aiG{f:az}{ps:Array Tmp}{x y:Code}{mark:ae Deferred}{w1:World}(he:(Instr.enterLoop b.fn tm ps x y b.roundOf).run P w=.ok (l,mark) w1){fn:Fn}{first captured:Array ah}
 (hf:Act.eval ⟨tm,df⟩ f=.func fn first captured) {nx:Next} {F0:Frame} (hi:(invoke (.fn fn captured) (first++ #[.func (.yield l) #[] #[]])).run P w1=.ok nx w1) (hn:entry P .normal nx=some F0):
 step P (lone (fr b tm df (.code (.rangeFunc f ps x y)::k)) cs w)=.next (lone F0 (fr b tm (mark++df) (.inRangeFunc l::k)::cs) w1):=by
 refine step_lone_go ?_;have hev:({fr b tm df (.code (.rangeFunc f ps x y)::k)with todo:=.inRangeFunc l::k,defers:=mark++df}).eval f=.func fn first captured:=by
  rw[<- hf];cases f<;>rfl
 have hcall:(do let d <- resolve ({fr b tm df (.code (.rangeFunc f ps x y)::k)with todo:=.inRangeFunc l::k,defers:=mark++df}:Frame).eval {callee:=.value f,args:= #[.const (.func (.yield l) #[] #[])],argTypes:= #[]} 0;invoke d.target d.args).run P w1=.ok nx w1:=by
  have hc:({fr b tm df (.code (.rangeFunc f ps x y)::k)with todo:=.inRangeFunc l::k,defers:=mark++df}).eval (.const (.func (.yield l) #[] #[]))=.func (.yield l) #[] #[]:=rfl;simp only[resolve,hev,Deferred.ofValue,fM,eX]
  grind
 have hfr:({fr b tm df (.code (.rangeFunc f ps x y)::k)with todo:=.inRangeFunc l::k,defers:=mark++df}:Frame)=fr b tm (mark++df) (.inRangeFunc l::k):=rfl;have he':=he;cases nx<;>simp only[entry,bz,reduceCtorEq]at hn
 .exact pe
 .exact pe
def aiH{r:Loop}(h:w.heap[l]? =some (.loop r))(hb:r.state≠.busy):
 step P (lone (fr b tm df (.endRangeFunc l::k)) cs w)=.next (lone (fr b tm df ((r.pending.map Item.code).toList++k)) cs (w.putObj l (.loop {r with state:=.exhausted}))):=by
 have h1:=run_endLoop (P:=P) h hb;refine step_lone_go ?_;simp[stepG,stepG.exec,fr,h1]
end
end Go.Ideal
namespace Go.Ideal
variable {P:Program}
variable{a:bB}{f:az}
def Ye{h:IH}{K:KO}{ps:ae Tmp}{assign body:dH}(fn:Fn)(first captured:ae ah)(hf:a.eval f=.func fn ⟨first⟩ ⟨captured⟩)(a1:bB)(h1:IH)(r:Nat)(M:KR)
 (ha1:a1.tmps=a.tmps/\a1.n=a.n/\a1.pm=a.pm/\a1.ro=a.ro)
 (hc:l6 P ⟨fn,lX first [.func (.yield h1.next) #[] #[]],captured,none⟩ (h1.new (.loop {state:=.ready,pending:=none,tmps:=a.tmps,n:=a.n,params:=ps,assign,body,defers:=r})) M)
 (hok:∀v pm h2,M (.ok v) pm h2->∃lp,h2.get h1.next=some (.loop lp)/\lp.state≠.busy/\K (lp.pending.getD .normal) a1 (h2.set h1.next (.loop {lp with state:=.exhausted})))
 (lI:∀ch pm h2,M (.gT ch) pm h2->K (.panic ch) a1 h2)
 {params:Array Tmp} {x y:Code} (hps:params.toList=ps) (hx:compile P x=assign) (hy:compile P y=body) (xV:FE P f=true)
 {β:aI} {w:World} {b:Frame} {tm:Array ah} {df:ae Deferred} {k:ae Item} {cs:ae Frame} (hG:lZ P β) (hW:WR P β h w) (hA:AR β none' a tm df) (hcx:CX P β a.pm a.ro b cs)
 {β1:aI} {w1:World} {u7 mark:ae Deferred} {gr:jf} (hW1:WR P β1 h1 w1) (hE1:Eff β h w β1 h1 w1) (hdf:u7=mark++df) (hdr:wF β1 a1.defers u7) (hgr:β1 r=some gr)
 (hent:(Instr.enterLoop b.fn tm params x y b.roundOf).run P w=.ok (w1.heap.size,mark) (w1.alloc (.loop {state:=.ready,pending:=none,fn:=b.fn,tmps:=tm,params,assign:=x,body:=y,defers:=gr.b}))):
 Post P β h w a.pm a.ro b cs k K (lone (fr b tm df (.code (.rangeFunc f params x y)::k)) cs w):=by
 obtain⟨e1,e2,e3,e4⟩:=ha1;have hle1:=hE1.le hW.dom;let g:jf:=⟨w1.heap.size,0,0,0,0⟩
 let Sm:Loop:={state:=.ready,pending:=none,fn:=b.fn,tmps:=tm,params,assign:=x,body:=y,defers:=gr.b}
 have hle2:β1.le (β1.add h1.next g):=aI.xQ g hW1.y8;have hLR:LR P (β1.add h1.next g) {state:=.ready,pending:=none,tmps:=a.tmps,n:=a.n,params:=ps,assign,body,defers:=r} Sm:=
  {state:=rfl,pending:=rfl,IG:=tg,size:=hA.size,tmps:=λi=>((hA.tmps i λhh=>hh).mono hle1).mono hle2,out:=hA.out,params:=hps,assign:=hx,body:=hy,defers:=⟨gr,hle2 _ _ hgr,rfl⟩,FQ:=hcx.fn}
 obtain⟨hW2,hE2⟩:=hW1.alloc (.loop {state:=.ready,pending:=none,tmps:=a.tmps,n:=a.n,params:=ps,assign,body,defers:=r}) (.loop Sm) g rfl rfl ⟨Sm,by simp[g],hLR⟩;have Aj:=hA.eval (iF:=df) hG xV (λ_ _ hh=>hh);rw[hf]at Aj;obtain⟨fn',f',c',k1,k2,k3,k4⟩:=Aj.BQ;have NG:(β1.add h1.next g) h1.next=some g:=aI.lY _ _ _
 have hG2:lZ P (β1.add h1.next g):=(hG.le hle1).le hle2;obtain⟨nx,F0,n1,n2,n3⟩:=hc.call rfl hG2 hW2 ((k1.mono hle1).mono hle2) (args':=f'++[.func (.yield w1.heap.size) #[] #[]]) (by
  rw[jO];refine((k2.mono hle1).mono hle2).append (.cons ?_ .nil);exact .func (.yield NG) .nil .nil) ((k3.mono hle1).mono hle2)
 have hargs:(⟨f'⟩:Array ah)++ #[.func (.yield w1.heap.size) #[] #[]]=⟨f'++[.func (.yield w1.heap.size) #[] #[]]⟩:=vi
 have hstep:=aiG (P:=P) (b:=b) (tm:=tm) (df:=df) (k:=k) (cs:=cs) hent k4 (nx:=nx) (F0:=F0) (by rw[hargs];exact n1) n2;rw[<- hdf]at hstep;obtain⟨res,h3,β3,w3,r',q1,q2,q3,q4,q5⟩:=n3 (fr b tm u7 (.inRangeFunc w1.heap.size::k)) cs;have hle3:=q3.le hW2.dom;have hA3:AR β3 none' a1 tm u7:=by
  refine⟨by rw[e2];exact hA.size,λi hi=>?_,λi hi=>?_,(hdr.mono hle2).mono hle3⟩
  .rw[e1];exact(((hA.tmps i hi).mono hle1).mono hle2).mono hle3
  .rw[e1];exact hA.out i (by rw[<- e2];exact hi)
 have hE:Eff β h w β3 h3 w3:=(hE1.trans hE2).trans q3;have hcs:qz β3 a.pm a1.pm cs cs:=by rw[e3];exact((hcx.start.mono hle1).mono hle2).mono hle3
 cases q4 with
 | @gT ch ch' hch=>
   refine⟨.panic ch,a1,h3,β3,w3,tm,u7,cs,lI ch none h3 q1,q2,hE,hA3,hcs,e4,.inRangeFunc w1.heap.size::k,ch',hch,.head hstep q5⟩
 | @ok v v' hv=>
   obtain⟨lp,l1,l2,l3⟩:=hok v none h3 q1;have hg3:=hle3 _ _ NG;obtain⟨zb,o1,L⟩:=q2.obj _ g _ hg3 l1;have o1:w3.heap[w1.heap.size]? =some (.loop zb):=o1;have hlt:w1.heap.size<w3.heap.size:=by
    grind
   obtain⟨z1,z2,z3⟩:=Sk (w:=w3) (o:=.loop {zb with state:=.exhausted}) hlt;obtain⟨y1,y2⟩:=q2.write hg3 l1 (.loop {lp with state:=.exhausted}) z1 z2 rfl rfl rfl (bI _) ⟨_,z3,{L with state:=rfl}⟩;have hfin:recv (fr b tm u7 (.inRangeFunc w1.heap.size::k)) (.returned v')=fr b tm u7 (.endRangeFunc w1.heap.size::k):=rfl;rw[hfin]at q5;have s2:=aiH (P:=P) (b:=b) (tm:=tm) (df:=u7) (k:=k) (cs:=cs) o1 (by rw[L.state];exact l2);have hst:=(Steps.head hstep q5).trans (.one s2);have uq:=L.pending;cases hlp:lp.pending with
   |none=>
    have hgd:lp.pending.getD .normal=.normal:=by rw[hlp];rfl
    rw[hgd]at l3;rw[hlp]at uq;exact gf
   |some o=>
    have hgd:lp.pending.getD .normal=o:=by rw[hlp];rfl
    rw[hgd]at l3;rw[hlp]at uq;cases o with
    |normal=>
     exact gf
    |exit id=>
     have uq:zb.pending=some (.exit id):=uq;have hto:(zb.pending.map Item.code).toList++k=.code (.exit id)::k:=by rw[uq];rfl
     rw[hto]at hst;exact⟨.exit id,a1,_,β3,_,tm,u7,cs,l3,y1,hE.trans y2,hA3,hcs,e4,k,rfl,hst⟩
    |ret=>
     have uq:zb.pending=some .ret:=uq;have hto:(zb.pending.map Item.code).toList++k=.code .ret::k:=by rw[uq];rfl
     rw[hto]at hst;exact⟨.ret,a1,_,β3,_,tm,u7,cs,l3,y1,hE.trans y2,hA3,hcs,e4,k,hst⟩
    |panic ch=>exact absurd hlp (L.IG ch)
def aiJ{h:IH}{K:KO}{ps:ae Tmp}{assign body:dH}(fn:Fn)(first captured:ae ah)(hf:a.eval f=.func fn ⟨first⟩ ⟨captured⟩)(a1:bB)(h1:IH)(r:Nat)
 (hr:(a.ro=none/\a1={a with defers:={target:=.collected h.next,args:= #[]}::a.defers}/\h1=h.new (.lC true)/\r=h.next)\/(∃l0 r0,a.ro=some l0/\a1=a/\h1=h/\h.get l0=some (.loop r0)/\r=r0.defers))
 (M:KR) (hc:l6 P ⟨fn,lX first [.func (.yield h1.next) #[] #[]],captured,none⟩ (h1.new (.loop {state:=.ready,pending:=none,tmps:=a.tmps,n:=a.n,params:=ps,assign,body,defers:=r})) M)
 (hok:∀v pm h2,M (.ok v) pm h2->∃lp,h2.get h1.next=some (.loop lp)/\lp.state≠.busy/\K (lp.pending.getD .normal) a1 (h2.set h1.next (.loop {lp with state:=.exhausted})))
 (lI:∀ch pm h2,M (.gT ch) pm h2->K (.panic ch) a1 h2):nE P (.rangeFunc f ps assign body) a h K:=by
 intro code it hcode hst β w b tm df k cs hG hW hA hcx;cases code<;>simp only[compile,reduceCtorEq]at hcode
 case region id ops draw=>rcases Al hcode with⟨_,_,h1⟩|h1<;>cases h1
 case rangeFunc f' params x y=>
  split at hcode
  .rename_i xV;simp only[dH.rangeFunc.injEq]at hcode;obtain⟨rfl,hps,hx,hy⟩:=hcode;obtain rfl:=hst.code tg;rcases hr with⟨hro,rfl,rfl,rfl⟩|⟨l0,r0,hro,rfl,rfl,hl0,rfl⟩
   .have hbr:b.roundOf=none:=by
     rcases hcx.round with⟨_,h2⟩|⟨l,g,h2,_⟩
     .exact h2
     grind
    let g:jf:=⟨w.heap.size,0,0,0,0⟩
    obtain⟨hW1,hE1⟩:=hW.alloc (.lC true) (.deferred (some [])) g rfl rfl (by show _=_;simp[g]);refine Ye fn first captured hf {a with defers:={target:=.collected h.next,args:= #[]}::a.defers} (h.new (.lC true)) h.next M (by grind) hc hok lI hps hx hy xV hG hW hA hcx (mark:=[{target:=.collected w.heap.size,args:= #[]}]) (gr:=g) hW1 hE1 rfl ?_ (aI.lY _ _ _) ?_
    .exact .coll (g:=g) (aI.lY _ _ _) (hA.defers.mono (aI.xQ g hW.y8))
    .have hs:({w with heap:=w.heap.push (.deferred (some []))}:World).heap.size=w.heap.size+1:=by grind
     rw[hbr,run_enterLoop_outer,hs];rfl
   .obtain⟨g0,hb1,hb2⟩:∃g0,β l0=some g0/\b.roundOf=some g0.b:=by
     rcases hcx.round with⟨h2,_⟩|⟨l,g,h2,h3,h4⟩
     .grind
     grind
    obtain⟨r0',o1,L⟩:=hW.obj l0 g0 _ hb1 hl0;obtain⟨gr,hgr,aiK⟩:=L.defers;refine Ye fn first captured hf _ _ _ M (by grind) hc hok lI hps hx hy xV hG hW hA hcx (β1:=β) (u7:=df) (mark:=[]) (gr:=gr) hW (Eff.refl _ _ _ hW.dom) rfl hA.defers hgr ?_
    rw[hb2];simp only[Instr.enterLoop,dS,run_getLoop o1,eX,fM,aiK,run_newObj_alloc]
  .cases hcode
end Go.Ideal
namespace Go.Ideal
variable {P:Program}
def aI.cut(β:aI)(m:Nat):aI:=λi=>if i<m then β i else none
def aI.aiL(β:aI)(m:Nat):(β.cut m).le β:=λi g h=>by
 simp only[aI.cut]at h
 grind
def aI.Jg{β:aI}{m i:Nat}(h:i<m):β.cut m i=β i:=by simp only[aI.cut];rw[if_pos h]
def Ga{a b:Nat}(h:Nat.blt a b=true):a<b:=mG h
mutual
def VR.cut{β:aI}{m:Nat}:∀{v v':ah},VR β v v'->qN m v=true->VR (β.cut m) v v'
 |_,_,.eO v,_=>.eO v
 |_,_,.skip,_=>.skip
 |_,_,.bool b,_=>.bool b
 |_,_,.int k n,_=>.int k n
 |_,_,.float k n,_=>.float k n
 |_,_,.complex k n o,_=>.complex k n o
 |_,_,.string s,_=>.string s
 |_,_,.nilFunc,_=>.nilFunc
 |_,_,.nilIface,_=>.nilIface
 |_,_,.BM,_=>.BM
 |_,_,.ptr hi,hb=>.ptr DM
 |_,_,.sl0 n c,_=>.sl0 n c
 |_,_,.ay hi q1 q2 q3,hb=>.ay DM q1 q2 q3
 |_,_,.qf hi q1 q2 q3 q4 q5 q6 q7 q8,hb=>.qf DM q1 q2 q3 q4 q5 q6 q7 q8
 |_,_,.Ae,_=>.Ae
 |_,_,.map hi,hb=>.map DM
 |_,_,.func hf h1 h2,hb=>by
  simp only[qN,eU]at hb;refine .func ?_ (aY.cut h1 hb.1.2) (aY.cut h2 hb.2);cases hf with
  |func f=>exact .func f
  |method n=>exact .method n
  |methodOf t n=>exact .methodOf t n
  |yield hl=>simp at hb
 |_,_,.iface t hv,hb=>.iface t (VR.cut hv uc)
 |_,_,.agg hc hl,hb=>.agg hc (aY.cut hl uc)
 |_,_,.tuple hl,hb=>.tuple (aY.cut hl uc)
def aY.cut{β:aI}{m:Nat}:∀{v v':ae ah},aY β v v'->uW m v=true->aY (β.cut m) v v'
 |_,_,.nil,_=>.nil
 |_,_,.cons hv hl,hb=>by
  simp only[uW,eU]at hb;exact .cons (VR.cut hv hb.1) (aY.cut hl hb.2)
end
def Yf{m:Nat}:∀{l:ae ah},uW m l=true->∀(j:Nat) v,l[j]? =some v->qN m v=true
 |[],_,j,v,h=>by simp at h
 |x::l,hb,0,v,h=>by simp only[uW]at hb;grind
 |x::l,hb,j+1,v,h=>by simp only[uW,eU]at hb;exact Yf hb.2 j v tw
def iy.cut{β:aI}{m:Nat}{l l':ae MapEntry}(he:iy β l l')(hb:∀e∈l,qN m e.val=true):iy (β.cut m) l l':=by
 induction he with
 |nil=>exact .nil
 |cons hk hf hbn hv _ ih=>exact .cons hk hf hbn (hv.cut (by grind)) (by grind)
def OR.cut{β:aI}{m:Nat}{g:jf}{w:World}{o:aN}(k:OR P β g w o)(hb:Iw m o=true):OR P (β.cut m) g w o:=by
 cases o with
 |cells cs=>
  obtain⟨h1,h2,h3,h5,h6,h7⟩:=k;exact⟨h1,h2,h3,h5,h6,λj v hj=>let⟨v',a,b⟩:=h7 j v hj;⟨v',a,b.cut (Yf hb j v hj)⟩⟩
 |map es clock=>obtain⟨es',h1,h2⟩:=k;exact⟨es',h1,h2.cut (by simpa[Iw]using hb)⟩
 |_=>cases hb
def aiM{q:bD}{h:IH}{K:KR}(h0:IH)(v:ah)(hv:cB v=true)(hq:q.pm=none)(hfn:qN h0.next (.func q.fn ⟨q.args⟩ ⟨q.captured⟩)=true)
 (hgl:P.globals.size<=h0.next)
 (hsub:∀i o,h0.get i=some o->i<h0.next/\h.get i=some o/\Iw h0.next o=true)
 (M:KR) (hc:l6 P q h0 M) (h1:∀r pm h',M r pm h'->pm=none/\r=.ok v/\h'.low=h0.next)
 (hk:K (.ok v) none h):l6 P q h K:=by
 intro β w fn' args' cap' hG hW hfr ha hcap;have hb0:∀i g,β.cut h0.next i=some g->i<h0.next/\β i=some g:=λi g hg=>by
  simp only[aI.cut]at hg
  grind
 have hb1:∀i,i<h0.next->β.cut h0.next i=β i:=λi hi=>aI.Jg hi
 have hG0:lZ P (β.cut h0.next):=λg hg=>by
  obtain⟨i,h1,h2⟩:=hG g hg
  grind
 have hlive:∀i,h0.get i≠none->h.get i≠none:=λi hi=>by
  cases e:h0.get i with
  |none=>exact absurd e hi
  |some o=>grind
 have hW0:WR P (β.cut h0.next) h0 w:=by
  refine⟨(by grind),(by grind),?_,?_⟩
  .intro i g o hg ho;obtain⟨_,hget,hcl⟩:=hsub i o ho;exact(hW.obj i g _ (hb0 i g hg).2 hget).cut hcl
  .intro i j g k hg hk hi hj hr he;have pass:∀x,h0.get x≠none->(∀cs,h0.get x≠some (.kR cs))->∀cs,h.get x≠some (.kR cs):=λx hx q cs e=>by
    cases e0:h0.get x with
    |none=>exact hx e0
    |some o=>grind
   exact hW.inj i j g k (hb0 i g hg).2 (hb0 j k hk).2 (hlive i hi) (hlive j hj) (by grind) he
 have Aj:=(VR.func hfr ha hcap).cut hfn;cases Aj with
 |func aiN ha0 hcap0=>
 obtain⟨nx,F0,n1,n2,n3⟩:=hc (β.cut h0.next) w fn' args' cap' hG0 hW0 aiN ha0 hcap0;refine⟨nx,F0,n1,n2,λcs0 wJ=>?_⟩;obtain⟨r,pm',h',β',w',r',cs1,q1,q2,q3,q4,q5,q6⟩:=n3 cs0 (by grind);obtain⟨hpm,rfl,hlow'⟩:=h1 r pm' h' q1;subst hpm;cases q4 with
 | @ok v v' qh=>
   have hvv:=qh.qO hv;subst hvv;have Yg:WR P β h w':=by
    refine⟨hW.dom,hW.live,?_,hW.inj⟩;intro i g o hg ho;have hor:=hW.obj i g o hg ho;by_cases hb:∀j k,β.cut h0.next j=some k->h0.get j≠none->k.b≠g.b
    .exact hor.congr (q3.keep g.b hor.lt hb)
    .have hb:∃j k,β.cut h0.next j=some k/\h0.get j≠none/\k.b=g.b:=by
      grind
     obtain⟨j,k,hk,hj,hkb⟩:=hb;cases e:h0.get j with
     |none=>exact absurd e hj
     |some o0=>
      obtain⟨hjn,hget,hcl⟩:=hsub j o0 e;have hij:i=j:=hW.inj i j g k hg (hb0 j k hk).2 (by rw[ho];simp) AG (.inr (by rw[hget];intro cs e;cases e;cases hcl)) hkb.symm;subst hij;rw[hget]at ho;cases ho;have hgk:g=k:=by grind
      subst hgk;have hk':h'.get i=some o:=by rw[q3.kept i (by rw[hlow'];exact hjn) hjn];exact e
      have aiP:=q2.obj i g _ (by rw[q3.agree i hjn];exact hk) hk';exact((hor.cut hcl).restrict (q3.le hW0.dom) aiP).mono (aI.aiL _ _)
   have hE:Eff β h w β h w':=
    {agree:=λ_ _=>rfl
     next:=bI _
     alive:=λ_ _ hn=>hn
     hid:=λ_ _ _=>rfl
     low:=bI _
     kept:=λ_ _ _=>rfl
     os:=q3.os,tape:=q3.tape,output:=q3.output,drawn:=q3.drawn,size:=q3.size
     keep:=λb hb hno=>q3.keep b hb (by grind)
     fresh:=λi g hg hi=>absurd (hW.dom i g hg) tf
     uX:=λi g _ hi hg hn hgb=>by
      by_cases hb:∀j k,β.cut h0.next j=some k->h0.get j≠none->k.b≠g.b
      .exact q3.keep g.b hgb hb
      .have hb:∃j k,β.cut h0.next j=some k/\h0.get j≠none/\k.b=g.b:=by
        grind
       obtain⟨j,k,hk,hj,hkb⟩:=hb;have hjn:=(hb0 j k hk).1;rw[<- hkb];exact q3.uX j k (by rw[hlow'];exact hjn) hjn hk hj (by rw[hkb];exact hgb)}
   exact⟨_,none,h,β,w',.returned v',cs1,hk,Yg,hE,.ok (VR.free hv),by rw[hq]at q5⊢;cases q5;exact .none _,by
    grind⟩
def aiQ{q:bD}{h:IH}{K:KR}(M:KR)(hc:l6 P q h M)
 (hk:∀r pm h',M r pm h'->∃h'',h''.next=h'.next/\h''.low=h'.low/\(∀i,h''.get i=h'.get i\/(h.next<=i/\h''.get i=none))/\K r pm h''):l6 P q h K:=by
 intro β w fn' args' cap' hG hW hfr ha hcap;obtain⟨nx,F0,n1,n2,n3⟩:=hc β w fn' args' cap' hG hW hfr ha hcap;refine⟨nx,F0,n1,n2,λcs0 wJ=>?_⟩;obtain⟨r,pm',h',β',w',r',cs1,q1,q2,q3,q4,q5,q6⟩:=n3 cs0 wJ;obtain⟨h'',e1,e2,e3,e4⟩:=hk r pm' h' q1;have hlive:∀i,h''.get i≠none->h'.get i≠none:=(by grind)
 have hget:∀i o,h''.get i=some o->h'.get i=some o:=(by grind)
 have hold:∀i,i<h.next->h''.get i=h'.get i:=(by grind)
 have Yg:WR P β' h'' w':=
  ⟨λi g hg=>by rw[e1];exact q2.dom i g hg,λi o ho=>by rw[e1];exact q2.live i o (hget i o ho),λi g o hg ho=>q2.obj i g o hg (hget i o ho),
   λi j g k hg hk hi hj hr he=>q2.inj i j g k hg hk (hlive i hi) (hlive j hj) (by grind) he⟩
 have hE:Eff β h w β' h'' w':=
  {agree:=q3.agree
   next:=by rw[e1];exact q3.next
   alive:=λi hi hn=>q3.alive i hi (hlive i hn)
   hid:=λi hi hb=>by rw[hold i hi];exact q3.hid i hi hb
   low:=by rw[e2];exact q3.low
   kept:=λi hl hi=>by rw[hold i hi];exact q3.kept i (by rw[<- e2];exact hl) hi
   os:=q3.os,tape:=q3.tape,output:=q3.output,drawn:=q3.drawn,size:=q3.size,keep:=q3.keep,fresh:=q3.fresh
   uX:=λj k hl hj hk hn hb=>q3.uX j k (by rw[<- e2];exact hl) hj hk hn hb}
 grind
def Yh(uZ:P.follows .mixedOrders=true){q:bD}{h:IH}{K:KR}(e:CALL P q h K):l6 P q h K:=by
 refine CALL.rec (P:=P) (motive_1:=λc a h K _=>nE P c a h K) (motive_2:=λds l a h K _=>qA P ds l a h K) (motive_3:=λcf ts ds m h K _=>Ai P cf ts ds m h K)
  ?_ ?_ ?_ ?_ ?_ ?_ ?_ ?_ ?_ ?_ ?_ ?_ ?_ ?_ ?_ ?_ ?_ ?_ ?_ ?_ ?_ ?_ ?_ ?_ ?_ ?_ ?_ ?_ ?_ ?_ ?_ ?_ e
 .intros;apply ah4;assumption
 .intros;apply ah3 uZ;assumption
 .intro x y a h K M _ _ h3 i1 i2;exact ah5 M i1 i2 h3
 .intro c x y a h K hc _ i1;exact X0 (t:=true) hc i1
 .intro c x y a h K hc _ i1;exact X0 (t:=false) hc i1
 .intro id c a h K M _ h2 i1;exact ah7 M i1 h2
 .intro c a h K M _ _ h3 i1 i2;exact ah8 M i1 i2 h3
 .intro c a h K _ i1;exact ah9 i1
 .intro id a h K hk;exact aia hk
 .intro a h K hk;exact aib hk
 .intro f ps assign body a h K fn first captured hf a1 h1 r hr M _ hok lI i1;exact aiJ fn first captured hf a1 h1 r hr M i1 hok lI
 .intro c a h K a0 hw hn _ i1;exact aic a0 hw hn i1
 .intro ds a h K hk;exact ahw hk
 .intro ds s l a h K hw _ i1;exact ahx hw i1
 .intro ds s l a h K hw v h' hr hs _ i1;exact ahy hw v h' hr hs i1
 .intro ds s l a h K hw q hq M _ hs _ lI i1 i2;exact ahI hw q hq M i1 hs i2 lI
 .intro ds s l a h K hw ho hre hm hro _ i1;exact ahM hw ho hre hm hro i1
 .intro ds s l a h K hw ho hre m hm hro _ i1;exact ahO hw ho hre m hm hro i1
 .intro ds s l a h K hw x ho t v hx hk;exact ahK hw x ho t v hx hk
 .intro ds s l a h K hw f args ho hre hro fn first captured hf _ i1;exact ahL hw f args ho hre hro fn first captured hf i1
 .intro ds s l a h K hw x ho hre alts ha _ i1;exact ahV hw x ho hre alts ha i1
 .intro cf ts h K v hv hk;exact aik v hv hk
 .intro cf ts h K ch hk;exact ail ch hk
 .intro cf ts args ds m h K hm r hr _ i1;exact aim hm r hr i1
 .intro cf ts fn captured args ds m h K hm M _ hpm _ _ i1 i2 i3;exact aip hm M i1 hpm i2 i3
 .intro q h K f args ht fn hf cf hcf M _ h2 _ i1 i3;exact ait f args ht fn hf cf hcf M i1 h2 i3
 .intro q h K l hq hpm r hr hargs M _ h2 _ i1 i3;exact aiD l hq hpm r hr hargs M i1 h2 i3
 .intro q h K cs n f hcs hne hf M _ hq h1 hk i1;exact aix cs n f hcs hne hf M i1 hq h1 hk
 .intro q h K M _ hk i1;exact F9 M i1 hk
 .intro q h K M _ hk i1;exact aiQ M i1 hk
 .intro q h K h0 v hv hq hfn hnext hgl hsub M _ h1 hk i1;exact aiM h0 v hv hq hfn hgl hsub M i1 h1 hk
 grind
