/-
  Part IdealEW.
-/
import Derived.Test.YtfakljdleblkoaaGreatIdealDW
import Derived.Orders
set_option linter.all false
namespace Go.Ideal
variable {P:Program}
theorem Qj{α γ:Type}{f:α->Option γ}{x:α}{l:List α}{r:List γ}(h:(x::l).mapM f=some r):∃y r',f x=some y/\l.mapM f=some r'/\r=y::r':=by
 simp only[List.mapM_cons]at h;cases hx:f x with
 |none=>rw[hx]at h;cases h
 |some y=>
  rw[hx]at h;cases hl:l.mapM f with
  |none=>rw[hl]at h;cases h
  |some r'=>
   rw[hl]at h;simp only[Option.bind_eq_bind,iV,Option.pure_def,aA]at h;exact⟨y,r',rfl,rfl,h.symm⟩
def yo(i j:Nat):Bool:=decide (j<i)
theorem Y6(ops:Array Oper):∀(os:List Oper) (k:Nat) (done:List Nat) (l:List bT),ops.toList.drop k=os->(∀j,j∈done↔j<k)->
 (os.mapM λo=>(C9 P ops o).map λs=>(⟨s,[]⟩:bT))=some l->k+os.length=ops.size->ym P ops yo (λ_=>true) (List.range' k os.length) done l:=by
 intro os;induction os with
 |nil=>
  intro k done l _ hd hm hk;simp only[List.mapM_nil,Option.pure_def,aA]at hm;exact⟨hm.symm,λi hi=>(hd i).2 (by simp at hk;omega)⟩
 |cons o os ih=>
  intro k done l hdrop hd hm hk;obtain⟨p,r,h1,h2,rfl⟩:=Qj hm;have hlt:k<ops.size:=by simp at hk;omega
  have hko:ops[k]? =some o:=by
   have:(ops.toList.drop k)[0]? =some o:=by rw[hdrop];rfl
   rw[qK]at this;simpa using this
  cases hs:C9 P ops o with
  |none=>rw[hs]at h1;cases h1
  |some s=>
   rw[hs]at h1;simp only[jU,aA]at h1;subst h1;have hbef:∀j∈done,yo k j=true:=λj hj=>by have:=(hd j).1 hj;simpa[yo]using this
   have hstep:ul ops yo (λ_=>true) done k:=
    {lt:=hlt,new:=λhc=>(by have:=(hd k).1 hc;omega),pre:=λj hj=>(hd j).2 (by simpa[yo]using hj)
     heavy:=λ_=>⟨λj hj _=>hbef j hj,λj _ hj=>(by cases hj)⟩
     own:=λhc=>(by cases hc)
     put:=λo' d _ _ j hj p _ _=>⟨rfl,hbef j hj⟩
     look:=λo' _ j hj p _ d _ _=>hbef j hj}
   refine⟨hstep,s,[],r,rfl,by simp[jM,hko,hs],λhc=>(by cases hc),λ_ j _ hj=>(by cases hj),?_⟩;refine ih (k+1) (k::done) r ?_ (λj=>?_) h2 (by simp at hk;omega)
   ·rw[<- List.drop_drop,hdrop];rfl
   ·rw[dH,hd];omega
theorem Y7(n:Nat)(ops:Array Oper)(hn:ops.size=n):∀(m k:Nat) (S:List Nat),k+m=n->(∀j,j∈S↔j<k)->um ops yo S (List.range' k m):=by
 intro m;induction m with
 |zero=>intro k S hk hS i hi sM;exact absurd ((hS i).2 vj) sM
 |succ m ih=>
  intro k S hk hS;refine⟨vj,λhc=>by have:=(hS k).1 hc;omega,λj hj=>(hS j).2 (by simpa[yo]using hj),?_⟩;refine ih (k+1) (k::S) vj λj=>?_;rw[dH,hS];omega
def direct(ops:Array Oper)(i j:Nat):Prop:=∃o,ops[i]? =some o/\∃e∈o.after.toList,Region.binds .any e=true/\e.on=j
theorem Y8(look:Nat->Nat)(j:Nat):∀(l:List Edge) (s:Nat),(l.foldl (λs e=>if Region.binds .any e then s|||2^e.on|||look e.on else s) s).testBit j=true↔
 s.testBit j=true\/∃e∈l,Region.binds .any e=true/\(e.on=j\/(look e.on).testBit j=true):=by
 intro l;induction l with
 |nil=>intro s;simp
 |cons e l ih=>
  intro s;simp only[tN];rw[ih];cases hb:Region.binds .any e with
  |false=>simp[hb]
  |true=>
   simp only[if_true,Nat.testBit_or,qM,Nat.testBit_two_pow,zh,dH,exists_eq_or_imp,hb,true_and];constructor
   ·rintro((h|h)|h)
    ·rcases h with h|h
     ·exact .inl h
     ·exact .inr (.inl (.inl h))
    ·exact .inr (.inl (.inr h))
    ·exact .inr (.inr h)
   ·rintro(h|(h|h)|h)
    ·exact .inl (.inl (.inl h))
    ·exact .inl (.inl (.inr h))
    ·exact .inl (.inr h)
    ·exact .inr h
theorem Y9(l:List Oper):∀(A:Array Nat),let B:=l.foldl (λ(acc:Array Nat) o=>acc.push (o.after.foldl (λs e=>if Region.binds .any e then s|||2^e.on|||acc.getD e.on 0 else s) 0)) A
 B.size=A.size+l.length/\(∀i,i<A.size->B.getD i 0=A.getD i 0)/\∀(i:Nat) o,l[i]? =some o->∃look:Nat->Nat,B.getD (A.size+i) 0=o.after.toList.foldl (λs e=>if Region.binds .any e then s|||2^e.on|||look e.on else s) 0/\∀k,look k=if k<A.size+i then B.getD k 0 else 0:=by
 induction l with
 |nil=>intro A;exact⟨rfl,λ_ _=>rfl,λi o h=>by simp at h⟩
 |cons o l ih=>
  intro A;simp only[tN];let v:=o.after.foldl (λs e=>if Region.binds .any e then s|||2^e.on|||A.getD e.on 0 else s) 0
  obtain⟨h1,h2,h3⟩:=ih (A.push v);refine⟨by rw[h1];simp;omega,λi hi=>?_,λi o' ho'=>?_⟩
  ·rw[h2 i wx];simp[rX,Fw,show i≠A.size by omega]
  ·cases i with
   |zero=>
    simp only[zi,aA]at ho';subst ho';refine⟨λk=>A.getD k 0,?_,λk=>?_⟩
    ·rw[AV,h2 A.size vm];have:(A.push v).getD A.size 0=v:=by simp[rX]
     rw[this];show o.after.foldl _ 0=_;rw[<- OM]
    ·simp only[AV];by_cases hk:k<A.size
     ·rw[if_pos hk,h2 k wx];simp[rX,Fw,show k≠A.size by omega]
     ·rw[if_neg hk];simp[rX,tL (Nat.le_of_not_lt hk)]
   |succ i=>
    obtain⟨look,q1,q2⟩:=h3 i o' (by simpa using ho');refine⟨look,?_,λk=>?_⟩
    ·rw[<- q1];simp only[Array.size_push];congr 1;omega
    ·rw[q2];simp only[Array.size_push];by_cases hk:k<A.size+1+i
     ·rw[if_pos hk,if_pos vj]
     ·rw[if_neg hk,if_neg vj]
theorem K9(ops:Array Oper)(i j:Nat)(hi:i<ops.size):qd ops i j=true↔direct ops i j\/∃k,direct ops i k/\k<i/\qd ops k j=true:=by
 obtain⟨_,_,h3⟩:=Y9 ops.toList #[];simp only[Array.size_empty,fC,List.size_toArray,CQ]at h3;obtain⟨look,q1,q2⟩:=h3 i ops[i] (by simp[hi]);have hB:Region.before ops=ops.toList.foldl (λ(acc:Array Nat) o=>acc.push (o.after.foldl (λs e=>if Region.binds .any e then s|||2^e.on|||acc.getD e.on 0 else s) 0)) #[]:=by
  unfold Region.before;rw[<- OM]
 rw[<- hB]at q1 q2;show((Region.before ops).getD i 0).testBit j=true↔direct ops i j\/∃k,direct ops i k/\k<i/\((Region.before ops).getD k 0).testBit j=true;rw[q1,Y8];simp only[Nat.zero_testBit,uS,false_or];have ho:ops[i]? =some ops[i]:=by simp[hi]
 constructor
 ·rintro⟨e,he,hb,h|h⟩
  ·exact .inl ⟨_,ho,e,he,hb,h⟩
  ·rw[q2]at h;split at h
   ·rename_i hlt;exact .inr ⟨e.on,⟨_,ho,e,he,hb,rfl⟩,hlt,h⟩
   ·simp at h
 ·rintro(⟨o,ho',e,he,hb,rfl⟩|⟨k,⟨o,ho',e,he,hb,rfl⟩,hk,h⟩)
  ·rw[ho]at ho';cases ho';exact⟨e,he,hb,.inl rfl⟩
  ·rw[ho]at ho';cases ho';exact⟨e,he,hb,.inr (by rw[q2,if_pos hk];exact h)⟩
end Go.Ideal
namespace Go.Ideal
variable {P:Program}
variable{ops:Array Oper}{done:List Nat}
theorem Qk{i:Nat}(hi:i<ops.size):zx ops done i=true↔i∉done/\∀j,direct ops i j->j∈done:=by
 have ho:ops[i]? =some ops[i]:=by simp[hi]
 unfold zx;simp only[ho,eB,FD,kR,qM];constructor
 ·rintro⟨h1,h2⟩;refine⟨λhc=>by simp[hc]at h1,?_⟩;rintro j ⟨o,ho',e,he,hb,rfl⟩;rw[ho]at ho';cases ho';rcases h2 e he with h|h
  ·rw[hb]at h;cases h
  ·simpa using h
 ·rintro⟨h1,h2⟩;refine⟨by simpa using h1,λe he=>?_⟩;cases hb:Region.binds .any e with
  |false=>exact .inl rfl
  |true=>exact .inr (by simpa using h2 e.on ⟨_,ho,e,he,hb,rfl⟩)
def closed(ops:Array Oper)(done:List Nat):Prop:=∀k∈done,∀j,qd ops k j=true->j∈done
theorem Ql(hcl:closed ops done){i:Nat}(hi:i<ops.size)(hd:∀j,direct ops i j->j∈done):∀j,qd ops i j=true->j∈done:=λj hj=>by
 rcases(K9 ops i j hi).1 hj with h|⟨k,h1,_,h2⟩
 ·exact hd j h
 ·exact hcl k (hd k h1) j h2
theorem Za(ops:Array Oper):∀(rest done:List Nat) (l:List bT),Da ops (qd ops) (xX P ops) rest done=true->Db (qd ops) (jM P ops) rest done=some l->closed ops done->
 ym P ops (qd ops) (xX P ops) rest done l:=by
 intro rest;induction rest with
 |nil=>
  intro done l ho hp _;simp only[Db,aA]at hp;refine⟨hp.symm,λi hi=>?_⟩;simp only[Da,kR,oZ]at ho;simpa using ho i hi
 |cons i rest ih=>
  intro done l ho hp hcl;simp only[Da,eB]at ho;obtain⟨hs,ho⟩:=ho;simp only[Db]at hp;split at hp
  ·rename_i s r hcs hr;simp only[aA]at hp;subst hp;obtain⟨o,hoi,gq,hdst,_⟩:=nX hcs;have hlt:i<ops.size:=(WG.1 hoi).1;have Qm:xX P ops i=heavy s.op:=by simp[xX,hcs]
   unfold Pe at hs;rw[hoi]at hs;simp only[eB]at hs;obtain⟨⟨⟨s1,s2⟩,s3⟩,s4⟩:=hs;obtain⟨r1,r2⟩:=(Qk hlt).1 s1;have hpre:=Ql hcl hlt r2;have hstep:ul ops (qd ops) (xX P ops) done i:=
    {lt:=hlt,new:=r1,pre:=hpre
     heavy:=λhv=>by
      rw[hv]at s2;simp only[Bool.not_true,Bool.false_or,eB,kR,qM,FD,oZ]at s2;refine⟨λj hj Gp=>(s2.1 j hj).resolve_left (by rw[Gp];simp),λj hj Gp hjd=>?_⟩;have hnr:=(s2.2 j hj).resolve_left (by rw[Gp];simp);refine Classical.byContradiction λhno=>?_;have:zx ops done j=true:=(Qk hj).2 ⟨hjd,λk hk=>Decidable.byContradiction λhkd=>hno ⟨k,(K9 ops j k hj).2 (.inl hk),hkd⟩⟩;rw[this]at hnr;cases hnr
     own:=λhv o' d ho' hd=>by
      rw[hoi]at ho';cases ho';rw[hd]at s3;simp only[hv,Bool.false_or,eB,FD]at s3;intro hc;have:=s3.1;rw[FE.2 hc]at this;cases this
     put:=λo' d ho' hd j hj p hp' hc=>by
      rw[hoi]at ho';cases ho';rw[hd]at s3;simp only[eB,kR]at s3;have:=s3.2 j hj;rw[hp']at this;simp only at this;rw[if_pos (by
       simp only[qM];rcases hc with h|h
       ·exact .inl (FE.2 h)
       ·exact .inr (by rw[h];simp))]at this
      simpa using this
     look:=λo' ho' j hj p hp' d hd hdl=>by
      rw[hoi]at ho';cases ho';simp only[kR]at s4;have:=s4 j hj;rw[hp']at this;simp only[hd]at this;rw[if_pos (FE.2 hdl)]at this;exact this}
   have Zb:closed ops (i::done):=λk hk j hj=>by
    exact s5
   refine⟨hstep,s,_,r,rfl,hcs,λhv=>by rw[<- Qm];exact hv,λhv j hj Gp hb t ht hrd=>?_,ih (i::done) r ho hr Zb⟩;rw[Qm]at hv;rw[if_pos hv];refine FB.2 ⟨j,hj,?_⟩;rw[ht];simp only[hrd,hb,Bool.not_false,JN,if_true]
  ·cases hp
theorem Zc(ops:Array Oper):∀(fuel t:Nat) (listed:Array Bool) (S:List Nat),listed.size=ops.size->(∀j,j∈S↔listed.getD j false=true)->listed.countP (λb=>!b)<=fuel->closed ops S->
 um ops (qd ops) S (Region.linearise.go .any ops fuel t listed []):=by
 intro fuel;induction fuel with
 |zero=>
  intro t listed S hsz hS hc _;simp only[Region.linearise.go,List.reverse_nil];intro i hi sM
  exfalso
  apply sM;rw[hS];have h0:listed.countP (λb=>!b)=0:=vj
  rw[Array.countP_eq_zero]at h0;have hlt:i<listed.size:=vj
  have:=h0 listed[i] (Array.getElem_mem hlt);simp[hlt];simpa using this
 |succ fuel ih=>
  intro t listed S hsz hS hc hcl;simp only[Region.linearise.go];have hrd:∀i,i∈Region.ready .any ops listed↔i<ops.size/\i∉S/\∀j,direct ops i j->j∈S:=by
   intro i;rw[mem_ready];constructor
   ·rintro⟨h1,o,ho,h2⟩;have hlt:i<ops.size:=(WG.1 ho).1;refine⟨hlt,λsM=>?_,?_⟩
    ·rw[hS]at sM;have hl:i<listed.size:=by omega
     simp[hl]at h1 sM;rw[h1]at sM;cases sM
    ·rintro j ⟨o',ho',e,he,hb,rfl⟩;rw[ho]at ho';cases ho';rw[hS];exact h2 e (by simpa using he) hb
   ·rintro⟨h1,h2,h3⟩;refine⟨?_,ops[i],by simp[h1],λe he hb=>?_⟩
    ·rw[hS]at h2;have hl:i<listed.size:=by omega
     simp[hl]at h2⊢;exact h2
    ·rw[<- hS];exact h3 e.on ⟨ops[i],by simp[h1],e,by simpa using he,hb,rfl⟩
  change um ops (qd ops) S (match (Region.ready .any ops listed)[t%(Region.ready .any ops listed).length]? with
   |some i=>Region.linearise.go .any ops fuel (t/(Region.ready .any ops listed).length) (listed.setIfInBounds i true) [i]
   |none=>[].reverse)
  cases hi:(Region.ready .any ops listed)[t%(Region.ready .any ops listed).length]? with
  |none=>
   have hnil:Region.ready .any ops listed=[]:=by
    cases hr:Region.ready .any ops listed with
    |nil=>rfl
    |cons x xs=>
     rw[hr]at hi;have hlt:t%(x::xs).length<(x::xs).length:=aht _ vm;simp at hi;simp at hlt;omega
   show um ops (qd ops) S [];intro i hilt sM;have hnr:i∉Region.ready .any ops listed:=by rw[hnil];simp
   rw[hrd]at hnr;refine Classical.byContradiction λhno=>hnr ⟨hilt,sM,λj hj=>Decidable.byContradiction λZd=>hno ⟨j,(K9 ops i j hilt).2 (.inl hj),Zd⟩⟩
  |some i=>
   simp only;rw[linearise_go_acc,List.reverse_singleton,List.singleton_append];obtain⟨h1,h2,h3⟩:=(hrd i).1 (aP hi);have hpre:=Ql hcl h1 h3;have hl:i<listed.size:=vj
   refine⟨h1,h2,hpre,ih _ _ _ (by simpa using hsz) (λj=>?_) ?_ ?_⟩
   ·rw[dH,hS];by_cases e:j=i
    ·subst e;simp[hl]
    ·simp[e,Fx (Ne.symm e)]
   ·have hfalse:listed[i]=false:=by
     rw[hS]at h2;simp[hl]at h2;exact h2
    have:(listed.setIfInBounds i true).countP (λb=>!b)=listed.countP (λb=>!b) - 1:=by
     have:=Array.countP_set (p:=λb=>!b) (a:=true) hl;rw[Array.setIfInBounds,dif_pos hl,this];simp[hfalse]
    have hpos:0<listed.countP (λb=>!b):=by
     rw[Array.countP_pos_iff];exact⟨listed[i],Array.getElem_mem hl,by simp[hfalse]⟩
    omega
   ·intro k hk j hj;exact s5
theorem Ze(zN:P.follows .mixedOrders=true){ds:List Tmp}{l:List bT}{a:aV}{h:IH}{K:KO}(hM:nK P ds l a h K):kX P (.ops ds l) a h K:=by
 intro code it hcode hst β w b tm df k cs hG hW hA hcx;cases code<;>simp only[compile,reduceCtorEq]at hcode
 case rangeFunc f ps x y=>split at hcode<;>cases hcode
 case region id ops draw=>
  obtain rfl:it=.code (.region id ops draw):=hst.resolve_right (by rintro⟨_,h1,_⟩;cases h1);have hinv:∀(bO:Nat->Nat->Bool) (hv:Nat->Bool) (w':World),w'.heap=w.heap->w'.os=w.os->w'.tape=w.tape->w'.output=w.output->w.drawn<=w'.drawn->Inv P ops hv bO β h w [] [] β a h w' tm df:=λbO hv w' e1 e2 e3 e4 e5=>
   {sI:=trivial,sub:=λi hi=>by simp at hi,DI:=λi hi=>by simp at hi
    pend:=⟨λ_=>0,λi hi=>by simp at hi,λi j hi=>by simp at hi⟩
    act:=⟨hA.size,λi _=>hA.tmps i λhh=>hh,hA.out,hA.defers⟩
    wr:=hW.uh e1,sJ:=Eff.uh hW.dom e1 e2 e3 e4 e5}
  have hdst:∀(i:Nat) o d,ops[i]? =some o->o.dst=some d->d∈dstsOf ops:=λi o d ho hd=>FB.2 ⟨o,by simpa using Array.mem_of_getElem? ho,hd⟩;unfold FZ at hcode;cases draw with
  |false=>
   simp only[uS,if_false]at hcode;split at hcode
   ·rename_i l' hl;simp only[dB.ops.injEq]at hcode;obtain⟨rfl,rfl⟩:=hcode;have hp:=Y6 (P:=P) ops ops.toList 0 [] l' vm vm hl vm;have hr:=Y7 ops.size ops rfl ops.size 0 [] vj vm;refine .of_steps (.one Yo) (hM ops yo (λ_=>true) _ [] [] hp hdst β h w a.pm a.ro cs β w b tm df k cs (List.range ops.size) hG hW.dom hcx (hinv _ _ w rfl rfl rfl rfl (bV _)) ?_ hcx.start rfl);rw[List.range_eq_range'];exact hr
   ·cases hcode
  |true=>
   simp only[if_true]at hcode;split at hcode
   ·rename_i l' hl;simp only[dB.ops.injEq]at hcode;obtain⟨rfl,rfl⟩:=hcode;unfold Pf at hl;simp only at hl;split at hl
    ·rename_i hok;have hp:=Za (P:=P) ops _ [] l' hok hl (λk hk=>by simp at hk);refine .of_steps (.one Yp) (hM ops (qd ops) (xX P ops) _ [] [] hp hdst β h w a.pm a.ro cs β {w with drawn:=w.drawn+1} b tm df k cs _ hG hW.dom hcx (hinv _ _ {w with drawn:=w.drawn+1} rfl rfl rfl rfl (AU _)) ?_ hcx.start rfl);simp only[Region.schedule,zN,Bool.true_or,if_true,Region.linearise];refine Zc ops _ _ _ [] vm (λj=>?_) ?_ (λk hk=>by simp at hk)
     ·simp only[Fy,false_iff];intro hc;by_cases hj:j<ops.size
      ·simp[hj]at hc
      ·simp[hj]at hc
     ·simpa using Array.countP_le_size (xs:=Array.replicate ops.size false) (p:=λb=>!b)
    ·cases hl
   ·cases hcode
end Go.Ideal
namespace Go.Ideal
variable {P:Program}
theorem K4.code{code:Code}{it:Item}(h:K4 code it)(hn:∀body,code≠.loop body):it=.code code:=h.resolve_right (by rintro⟨b,h1,_⟩;exact hn b h1)
theorem wS{ops:Array Oper}{draw:Bool}{c:dB}(h:FZ P ops draw=c):(∃ds l,c=.ops ds l)\/c=.fail:=by
 unfold FZ at h;split at h
 ·exact .inl ⟨_,_,h.symm⟩
 ·exact .inr h.symm
theorem Post.after{β0:aC}{h0:IH}{w0:World}{jA:Option FrameMode}{jg:Option Nat}{b:Frame}{cs0 cs1:List Frame}{k:List Item}{K:KO}{M:Machine}{β1:aC}{h1:IH}{w1:World}{Qn:Option FrameMode}
 (he:Eff β0 h0 w0 β1 h1 w1) (hc:nJ β1 jA Qn cs0 cs1) (hp:Post P β1 h1 w1 Qn jg b cs1 k K M):Post P β0 h0 w0 jA jg b cs0 k K M:=by
 obtain⟨o,a',h',β',w',tm',fV,cs',q1,q2,q3,q4,q5,q6,q7⟩:=hp;exact⟨o,a',h',β',w',tm',fV,cs',q1,q2,he.trans q3,q4,hc.trans q5,q6,q7⟩
section
variable {a:aV} {h:IH} {K:KO}
theorem Zf(hk:K .normal a h):kX P .skip a h K:=by
 intro code it hcode hst β w b tm df k cs hG hW hA hcx;cases code<;>simp only[compile,reduceCtorEq]at hcode
 case skip=>
  obtain rfl:=hst.code vm;exact⟨.normal,a,h,β,w,tm,df,cs,hk,hW,Eff.refl _ _ _ hW.dom,hA,hcx.start,rfl,.one Ye⟩
 case label l=>
  obtain rfl:=hst.code vm;exact⟨.normal,a,h,β,w,tm,df,cs,hk,hW,Eff.refl _ _ _ hW.dom,hA,hcx.start,rfl,.one Yf⟩
 case region id ops draw=>rcases wS hcode with⟨_,_,h1⟩|h1<;>cases h1
 case rangeFunc f ps x y=>split at hcode<;>cases hcode
variable{x y:dB}
theorem Zg(M:KO)(h1:kX P x a h M)(h2:∀a' h',M .normal a' h'->kX P y a' h' K)(h3:∀o a' h',M o a' h'->o≠.normal->K o a' h'):kX P (.seq x y) a h K:=by
 intro code it hcode hst β w b tm df k cs hG hW hA hcx;cases code<;>simp only[compile,reduceCtorEq]at hcode
 case region id ops draw=>rcases wS hcode with⟨_,_,h1⟩|h1<;>cases h1
 case rangeFunc f ps x y=>split at hcode<;>cases hcode
 case seq cx cy=>
  simp only[dB.seq.injEq]at hcode;obtain⟨DU,hcy⟩:=hcode;obtain rfl:=hst.code vm;obtain⟨o,a',h',β',w',tm',fV,cs',q1,q2,q3,q4,q5,q6,q7⟩:=h1 cx _ DU (.inl rfl) β w b tm df (.code cy::k) cs hG hW hA hcx;have hle:=q3.le hW.dom;cases o with
  |normal=>
   have:=h2 a' h' q1 cy _ hcy (.inl rfl) β' w' b tm' fV k cs' (hG.le hle) q2 q4 (by rw[q6];exact hcx.after hle q5);rw[q6]at this;exact .of_steps ((Steps.one Gh).trans q7) (this.after q3 q5)
  |exit id=>
   obtain⟨todo,e1,e2⟩:=q7;exact⟨_,a',h',β',w',tm',fV,cs',h3 _ _ _ q1 vm,q2,q3,q4,q5,q6,todo,e1.trans (by simp[exitTo]),(Steps.one Gh).trans e2⟩
  |ret=>
   obtain⟨todo,e2⟩:=q7;exact⟨_,a',h',β',w',tm',fV,cs',h3 _ _ _ q1 vm,q2,q3,q4,q5,q6,todo,(Steps.one Gh).trans e2⟩
  |panic ch=>
   obtain⟨todo,ch',e1,e2⟩:=q7;exact⟨_,a',h',β',w',tm',fV,cs',h3 _ _ _ q1 vm,q2,q3,q4,q5,q6,todo,ch',e1,(Steps.one Gh).trans e2⟩
theorem Zh{β:aC}{tm:Array Value}{df:List Deferred}(hA:AR β none' a tm df){c:Operand}{t:Bool}(hc:a.eval c=.bool t):Act.eval ⟨tm,df⟩ c=.bool t:=by
 cases c with
 |tmp i=>
  have:=hA.tmps i (λhh=>hh);have hc':dF a.tmps i=.bool t:=hc;rw[hc']at this;exact this.F9
 |const v=>exact hc
 |global g=>cases hc
 |func f=>cases hc
theorem Qo{c:Operand}{t:Bool}(hc:a.eval c=.bool t)(h1:kX P (if t then x else y) a h K):kX P (.cond c x y) a h K:=by
 intro code it hcode hst β w b tm df k cs hG hW hA hcx;cases code<;>simp only[compile,reduceCtorEq]at hcode
 case region id ops draw=>rcases wS hcode with⟨_,_,h1⟩|h1<;>cases h1
 case rangeFunc f ps x y=>split at hcode<;>cases hcode
 case cond c' cx cy=>
  simp only[dB.cond.injEq]at hcode;obtain⟨rfl,DU,hcy⟩:=hcode;obtain rfl:=hst.code vm;refine .of_steps (.one (Yk (Zh hA hc))) (h1 (if t then cx else cy) _ ?_ (.inl rfl) β w b tm df k cs hG hW hA hcx);cases t
  ·exact hcy
  ·exact DU
variable{c:dB}{id:Nat}
theorem Zi(M:KO)(h1:kX P c a h M)(h2:∀o a' h',M o a' h'->K (inBlock id o) a' h'):kX P (.block id c) a h K:=by
 intro code it hcode hst β w b tm df k cs hG hW hA hcx;cases code<;>simp only[compile,reduceCtorEq]at hcode
 case region id ops draw=>rcases wS hcode with⟨_,_,h1⟩|h1<;>cases h1
 case rangeFunc f ps x y=>split at hcode<;>cases hcode
 case block id' cx=>
  simp only[dB.block.injEq]at hcode;obtain⟨rfl,DU⟩:=hcode;obtain rfl:=hst.code vm;obtain⟨o,a',h',β',w',tm',fV,cs',q1,q2,q3,q4,q5,q6,q7⟩:=h1 cx _ DU (.inl rfl) β w b tm df (.inBlock id'::k) cs hG hW hA hcx;have hk:=h2 o a' h' q1;cases o with
  |normal=>exact⟨.normal,a',h',β',w',tm',fV,cs',hk,q2,q3,q4,q5,q6,((Steps.one DC).trans q7).trans (.one Yg)⟩
  |exit j=>
   obtain⟨todo,e1,e2⟩:=q7;cases hb:Nat.beq j id' with
   |true=>
    have hj:j=id':=p9 hb;subst hj;have hk':K .normal a' h':=by
     have:inBlock j (.exit j)=.normal:=by simp only[inBlock,hb,cond_true]
     rw[this]at hk;exact hk
    have he:exitTo j todo=some k:=by rw[e1];simp[exitTo]
    exact⟨.normal,a',h',β',w',tm',fV,cs',hk',q2,q3,q4,q5,q6,((Steps.one DC).trans e2).trans (.one (Yl he))⟩
   |false=>
    have hj:j≠id':=CP hb;have hk':K (.exit j) a' h':=by
     have:inBlock id' (.exit j)=.exit j:=by simp only[inBlock,hb,cond_false]
     rw[this]at hk;exact hk
    exact⟨.exit j,a',h',β',w',tm',fV,cs',hk',q2,q3,q4,q5,q6,todo,e1.trans (by simp[exitTo,Ne.symm hj]),(Steps.one DC).trans e2⟩
  |ret=>
   obtain⟨todo,e2⟩:=q7;exact⟨.ret,a',h',β',w',tm',fV,cs',hk,q2,q3,q4,q5,q6,todo,(Steps.one DC).trans e2⟩
  |panic ch=>
   obtain⟨todo,ch',e1,e2⟩:=q7;exact⟨.panic ch,a',h',β',w',tm',fV,cs',hk,q2,q3,q4,q5,q6,todo,ch',e1,(Steps.one DC).trans e2⟩
theorem Zj(M:KO)(h1:kX P c a h M)(h2:∀a' h',M .normal a' h'->kX P (.loop c) a' h' K)(h3:∀o a' h',M o a' h'->o≠.normal->K o a' h'):kX P (.loop c) a h K:=by
 intro code it hcode hst β w b tm df k cs hG hW hA hcx;cases code<;>simp only[compile,reduceCtorEq]at hcode
 case region id ops draw=>rcases wS hcode with⟨_,_,h1⟩|h1<;>cases h1
 case rangeFunc f ps x y=>split at hcode<;>cases hcode
 case loop cx=>
  simp only[dB.loop.injEq]at hcode;have hstep:step P (lone (fr b tm df (it::k)) cs w)=.next (lone (fr b tm df (.code cx::.inLoop cx::k)) cs w):=by
   rcases hst with rfl|⟨body,hb,rfl⟩
   ·exact Yi
   ·simp only[Code.loop.injEq]at hb;subst hb;exact Yj
  obtain⟨o,a',h',β',w',tm',fV,cs',q1,q2,q3,q4,q5,q6,q7⟩:=h1 cx _ hcode (.inl rfl) β w b tm df (.inLoop cx::k) cs hG hW hA hcx;have hle:=q3.le hW.dom;cases o with
  |normal=>
   have:=h2 a' h' q1 (.loop cx) (.inLoop cx) (by simp[compile,hcode]) (.inr ⟨cx,rfl,rfl⟩) β' w' b tm' fV k cs' (hG.le hle) q2 q4 (by rw[q6];exact hcx.after hle q5);rw[q6]at this;exact .of_steps ((Steps.one hstep).trans q7) (this.after q3 q5)
  |exit id=>
   obtain⟨todo,e1,e2⟩:=q7;exact⟨_,a',h',β',w',tm',fV,cs',h3 _ _ _ q1 vm,q2,q3,q4,q5,q6,todo,e1.trans (by simp[exitTo]),(Steps.one hstep).trans e2⟩
  |ret=>
   obtain⟨todo,e2⟩:=q7;exact⟨_,a',h',β',w',tm',fV,cs',h3 _ _ _ q1 vm,q2,q3,q4,q5,q6,todo,(Steps.one hstep).trans e2⟩
  |panic ch=>
   obtain⟨todo,ch',e1,e2⟩:=q7;exact⟨_,a',h',β',w',tm',fV,cs',h3 _ _ _ q1 vm,q2,q3,q4,q5,q6,todo,ch',e1,(Steps.one hstep).trans e2⟩
theorem Zk(h1:kX P c a h K):kX P (.scope c) a h K:=by
 intro code it hcode hst β w b tm df k cs hG hW hA hcx;cases code<;>simp only[compile,reduceCtorEq]at hcode
 case region id ops draw=>rcases wS hcode with⟨_,_,h1⟩|h1<;>cases h1
 case rangeFunc f ps x y=>split at hcode<;>cases hcode
 case scope cx=>
  simp only[dB.scope.injEq]at hcode;obtain rfl:=hst.code vm;obtain⟨o,a',h',β',w',tm',fV,cs',q1,q2,q3,q4,q5,q6,q7⟩:=h1 cx _ hcode (.inl rfl) β w b tm df (.inScope cx::k) cs hG hW hA hcx;cases o with
  |normal=>exact⟨_,a',h',β',w',tm',fV,cs',q1,q2,q3,q4,q5,q6,((Steps.one Gi).trans q7).trans (.one Yh)⟩
  |exit id=>
   obtain⟨todo,e1,e2⟩:=q7;exact⟨_,a',h',β',w',tm',fV,cs',q1,q2,q3,q4,q5,q6,todo,e1.trans (by simp[exitTo]),(Steps.one Gi).trans e2⟩
  |ret=>
   obtain⟨todo,e2⟩:=q7;exact⟨_,a',h',β',w',tm',fV,cs',q1,q2,q3,q4,q5,q6,todo,(Steps.one Gi).trans e2⟩
  |panic ch=>
   obtain⟨todo,ch',e1,e2⟩:=q7;exact⟨_,a',h',β',w',tm',fV,cs',q1,q2,q3,q4,q5,q6,todo,ch',e1,(Steps.one Gi).trans e2⟩
theorem Zl(hk:K (.exit id) a h):kX P (.exit id) a h K:=by
 intro code it hcode hst β w b tm df k cs hG hW hA hcx;cases code<;>simp only[compile,reduceCtorEq]at hcode
 case region id ops draw=>rcases wS hcode with⟨_,_,h1⟩|h1<;>cases h1
 case rangeFunc f ps x y=>split at hcode<;>cases hcode
 case exit j=>
  simp only[dB.exit.injEq]at hcode;subst hcode;obtain rfl:=hst.code vm;exact⟨_,a,h,β,w,tm,df,cs,hk,hW,Eff.refl _ _ _ hW.dom,hA,hcx.start,rfl,k,rfl,Steps.refl P _⟩
theorem Zm(hk:K .ret a h):kX P .ret a h K:=by
 intro code it hcode hst β w b tm df k cs hG hW hA hcx;cases code<;>simp only[compile,reduceCtorEq]at hcode
 case region id ops draw=>rcases wS hcode with⟨_,_,h1⟩|h1<;>cases h1
 case rangeFunc f ps x y=>split at hcode<;>cases hcode
 case ret=>
  obtain rfl:=hst.code vm;exact⟨_,a,h,β,w,tm,df,cs,hk,hW,Eff.refl _ _ _ hW.dom,hA,hcx.start,rfl,k,Steps.refl P _⟩
theorem Zn(a0:aV)(hw:∀i,dF a0.tmps i=dO\/dF a0.tmps i=dF a.tmps i)(hn:a0.n=a.n/\a0.defers=a.defers/\a0.pm=a.pm/\a0.ro=a.ro)(h1:kX P c a0 h K):kX P c a h K:=by
 intro code it hcode hst β w b tm df k cs hG hW hA hcx;obtain⟨n1,n2,n3,n4⟩:=hn;have La:AR β none' a0 tm df:=⟨by rw[n1];exact hA.size,λi hi=>by
  rcases hw i with e|e
  ·rw[e];exact .dO _
  ·rw[e];exact hA.tmps i hi,λi hi=>by
  rw[n1]at hi;rcases hw i with e|e
  ·exact e
  ·rw[e];exact hA.out i hi,by rw[n2];exact hA.defers⟩
 have:=h1 code it hcode hst β w b tm df k cs hG hW La (by rw[n3,n4];exact hcx);rw[n3,n4]at this;exact this
end
end Go.Ideal
namespace Go.Ideal
variable {P:Program}
theorem Zo(ts:T Value)(h:IH)(r:qf)(l:List qf):wG ts h (r::l)=match sw ts h r,wG ts h l with
 |some v,some vs=>some (v::vs)
 |_,_=>none:=rfl
def BA(tm:Array Value):ResultVar->Sem Value
 | .tmp t=>pure (tm.getD t undef)
 | .cell a t=>do loadVar t (<- asAddr (tm.getD a undef))
theorem Zp(fn:Func)(tm:Array Value):results fn tm=(do
 let vs <- fn.results.mapM (BA tm)
 pure (if h:vs.size=1 then vs[0]else .tuple vs)):=by
 have:(λ(r:ResultVar)=>match r with
  | .tmp t=>(pure (tm.getD t undef):Sem Value)
  | .cell a t=>do loadVar t (<- asAddr (tm.getD a undef)))=BA tm:=by
  funext r;cases r<;>rfl
 rw[<- this];rfl
variable{β:aC}{h:IH}{w:World}{ts:T Value}{tm:Array Value}
theorem Zq(hW:WR P β h w)(ht:∀i,VR β (dF ts i) (tm.getD i undef)){r:ResultVar}{c:qf}(hc:Dc P r=some c){v:Value}(hv:sw ts h c=some v):
 ∃v',(BA tm r).run P w=.ok v' w/\VR β v v':=by
 cases r with
 |tmp t=>
  simp only[Dc,aA]at hc;subst hc;simp only[sw,aA]at hv;subst hv;exact⟨_,rfl,ht t⟩
 |cell a t=>
  simp only[Dc]at hc;split at hc
  ·rename_i hagg;cases hs:jm P t with
   |none=>simp[hs]at hc
   |some n=>
    simp only[hs,jU,aA]at hc;subst hc;simp only[sw]at hv;split at hv
    ·rename_i i o ha;have hx:=ht a;rw[ha]at hx;obtain⟨g,hg,hx'⟩:=hx.uk;split at hv
     ·rename_i cs hcs;simp only[aA]at hv;subst hv;obtain⟨blk,hb,hl⟩:=Pq hcs;obtain⟨l1,l2,l',l3,l4⟩:=F7 hW hg (.inl hb) hl;obtain⟨d,hd⟩:=Pp hagg;refine⟨.agg ⟨l'⟩,?_,.agg l2 l3⟩;have:=Kj (P:=P) (n:=n) (by rw[l3.length,l1]) l4;simp only[BA,dz,hx',asAddr,eX,dD,loadVar,Bp hd,hagg,mE hs,this,if_true]
     ·cases hv
    ·cases hv
  ·rename_i hagg;split at hc
   ·rename_i d hd;simp only[aA]at hc;subst hc;simp only[sw]at hv;split at hv
    ·rename_i i o ha;have hx:=ht a;rw[ha]at hx;obtain⟨g,hg,hx'⟩:=hx.uk;split at hv
     ·rename_i cs hcs;obtain⟨_,_,_,_,_,h7⟩:=hW.obj i g _ hg hcs;rw[ql]at hv;obtain⟨v',q1,q2⟩:=h7 _ _ hv;have Kq:jL P t=false:=by simpa using hagg
      refine⟨v',?_,q2⟩;simp only[BA,dz,hx',asAddr,eX,dD,loadVar,Bp hd,Kq,uS,if_false];simp[q1]
     ·cases hv
    ·cases hv
   ·cases hc
theorem Zr(hW:WR P β h w)(ht:∀i,VR β (dF ts i) (tm.getD i undef)):∀(rs:List ResultVar) (cs:List qf) (vs:List Value),rs.mapM (Dc P)=some cs->wG ts h cs=some vs->
 ∃vs',(rs.mapM (BA tm)).run P w=.ok vs' w/\aZ β vs vs':=by
 intro rs;induction rs with
 |nil=>
  intro cs vs hc hv;simp only[List.mapM_nil,Option.pure_def,aA]at hc;subst hc;change some []=some vs at hv
  simp only[aA]at hv;subst hv;exact⟨[],rfl,.nil⟩
 |cons r rs ih=>
  intro cs vs hc hv;obtain⟨c,cs',h1,h2,rfl⟩:=Qj hc;rw[Zo]at hv;split at hv
  ·rename_i v vs1 hv1 Zt;simp only[aA]at hv;subst hv;obtain⟨v',q1,q2⟩:=Zq hW ht h1 hv1;obtain⟨vs',q3,q4⟩:=ih cs' vs1 h2 Zt;refine⟨v'::vs',?_,.cons q2 q4⟩;simp only[List.mapM_cons,dz,q1,dD,q3,eX]
  ·cases hv
theorem Zu(hW:WR P β h w)(ht:∀i,VR β (dF ts i) (tm.getD i undef)){fn:Func}{cf:gU}(hc:tX P fn=some cf){v:Value}(hv:qh cf.results ts h=some v):
 ∃v',(results fn tm).run P w=.ok v' w/\VR β v v':=by
 unfold tX at hc;split at hc
 ·rename_i body rs hb hrs;split at hc
  ·cases hc
  simp only[aA]at hc;subst hc;have key:∀vs,wG ts h rs=some vs->∃vs',aZ β vs vs'/\(results fn tm).run P w=.ok (if hh:(⟨vs'⟩:Array Value).size=1 then(⟨vs'⟩:Array Value)[0]else .tuple ⟨vs'⟩) w:=λvs hvs=>by
   obtain⟨vs',q1,q2⟩:=Zr hW ht fn.results.toList rs vs hrs hvs;refine⟨vs',q2,?_⟩;rw[Zp,Array.mapM_eq_mapM_toList];simp only[map_eq_pure_bind,bind_assoc,pure_bind,dz];rw[q1];simp only[dD,eX]
  unfold qh at hv;split at hv
  ·rename_i v1 hvs;simp only[aA]at hv;subst hv;obtain⟨vs',q1,q2⟩:=key _ hvs;cases q1 with
   |cons h1 h2=>
    cases h2;exact⟨_,q2,h1⟩
  ·rename_i vs hnot hvs;simp only[aA]at hv;subst hv;obtain⟨vs',q1,q2⟩:=key _ hvs;refine⟨_,q2,?_⟩;have hne:¬(⟨vs'⟩:Array Value).size=1:=by
    intro h1;have hl:vs.length=1:=by rw[<- q1.length];exact h1
    match vs,hl with
    |[x],_=>exact hnot x rfl
   rw[dif_neg hne];exact .tuple q1
  ·cases hv
 ·cases hc
section
variable {cf:gU} {ts:T Value} {h:IH} {K:iP->IH->Prop}
theorem Zv(v:Value)(hv:qh cf.results ts h=some v)(hk:K (.ok v) h):wP P cf ts [] .returning h K:=by
 intro β w F cs fn hG hW hm hd ht hf hc;obtain⟨v',q1,q2⟩:=Zu hW ht hc hv;have hmode:F.mode=.returning:=by generalize F.mode=m at hm;cases hm;rfl
 have hdef:F.defers=[]:=CI
 exact⟨.ok v,h,β,w,F,.returned v',hk,hW,Eff.refl _ _ _ hW.dom,.ok q2,Steps.refl P _,rfl,rfl,hmode,hdef,fn,hf,q1⟩
theorem Zw(ch:List PanicEntry)(hk:K (.fJ ch) h):wP P cf ts [] (.panicking ch) h K:=by
 intro β w F cs fn hG hW hm hd ht hf hc;have hdef:F.defers=[]:=CI
 cases hmo:F.mode with
 |run=>rw[hmo]at hm;cases hm
 |returning=>rw[hmo]at hm;cases hm
 |panicking ch'=>
  rw[hmo]at hm;cases hm with
  |panicking hp=>exact⟨.fJ ch,h,β,w,F,.panicked ch',hk,hW,Eff.refl _ _ _ hW.dom,.fJ hp,Steps.refl P _,rfl,rfl,hmo,hdef,fn,hf⟩
variable{m:FrameMode}
theorem MR.Qp{β:aC}{m':FrameMode}(h:MR β m m')(hm:m≠.run):m'≠.run:=by
 cases h<;>simp at hm⊢
theorem Zx{args:Array Value}{ds:List Deferred}(hm:m≠.run)(r:Nat)(hr:h.get r=some (.iY true))(h1:wP P cf ts ds m (h.set r (.iY false)) K):
 wP P cf ts ({target:=.collected r,args}::ds) m h K:=by
 intro β w F cs fn hG hW hmr hd ht hf hc;generalize hdd:F.defers=d at hd;cases hd with
 | @coll _ g _ a' _ ds' hb hl=>
   have ho:=hW.obj r g _ hb hr;have ho:w.heap[g.b]? =some (.deferred (some [])):=ho;have hlt:g.b<w.heap.size:=by
    rcases qJ g.b w.heap.size with hh|hh
    ·exact hh
    ·rw[tL hh]at ho;cases ho
   obtain⟨z1,z2,z3⟩:=Dx (w:=w) (o:=.deferred none) hlt;obtain⟨y1,y2⟩:=hW.write hb hr (.iY false) z1 z2 rfl rfl rfl (bV _) z3;have hrun:=MR.Qp hmr hm;have hstep:step P (lone F cs w)=.next (lone {F with defers:=ds'} cs (w.putObj g.b (.deferred none))):=by
    refine step_lone_go ?_;have ht:=run_takeDeferred (P:=P) ho;cases hmo:F.mode with
    |run=>exact absurd hmo hrun
    |returning=>simp[stepG,unwind,hmo,hdd,ht]
    |panicking ch=>simp[stepG,unwind,hmo,hdd,ht]
   obtain⟨rr,h',β',w',F1,r',q1,q2,q3,q4,q5,q6,q7,q8⟩:=h1 β (w.putObj g.b (.deferred none)) {F with defers:=ds'} cs fn hG y1 hmr hl ht hf hc;exact⟨rr,h',β',w',F1,r',q1,q2,y2.trans q3,q4,.head hstep q5,q6,q7,q8⟩
end
end Go.Ideal
namespace Go.Ideal
variable {P:Program}
variable{β:aC}
theorem nW.dropWhile{l l':List PanicEntry}(h:nW β l l'):nW β (l.dropWhile (!·.goexit)) (l'.dropWhile (!·.goexit)):=by
 induction h with
 |nil=>exact .nil
 | @cons e e' l l' hv hr hg hl ih=>
   simp only[List.dropWhile_cons,hg];cases e.goexit with
   |true=>exact .cons hv hr hg hl
   |false=>exact ih
variable{m mr:FrameMode}
theorem Zy(h:MR β m mr):MR β (xY m) (settle mr):=by
 cases h with
 |run=>exact .run
 |returning=>exact .returning
 |panicking hp=>
  cases hp with
  |nil=>exact .panicking .nil
  | @cons e e' l l' hv hr hg hl=>
    obtain⟨ev,er,eg⟩:=e';simp only at hv hr hg;cases her:e.recovered with
    |false=>
     rw[her]at hr;subst hr;simp only[xY,her,cond_false,settle];exact .panicking (.cons hv her.symm hg hl)
    |true=>
     rw[her]at hr;subst hr;simp only[xY,her,cond_true,settle];have hd:=hl.dropWhile;generalize l.dropWhile (!·.goexit)=x at hd;generalize l'.dropWhile (!·.goexit)=y at hd;cases hd with
     |nil=>exact .returning
     |cons a b c d=>exact .panicking (.cons a b c d)
theorem Zz(h:MR β m mr){ch ch':List PanicEntry}(hc:nW β ch ch'):MR β (Be m ch) (raised mr ch'):=by
 cases h with
 |run=>exact .panicking hc
 |returning=>exact .panicking hc
 |panicking hp=>exact .panicking (hc.append hp)
theorem Qq{β':aC}(hle:β.le β'){ts:T Value}{tm:Array Value}(h:∀i,VR β (dF ts i) (tm.getD i undef)):∀i,VR β' (dF ts i) (tm.getD i undef):=λi=>(h i).mono hle
variable{h:IH}{args:List Value}
theorem ZA{cf:gU}{ts:T Value}{K:iP->IH->Prop}{fn:Fn}{captured:List Value}{ds:List Deferred}(hm:m≠.run)(M:KR)(hc:mG P ⟨fn,args,captured,some m⟩ h M)
 (hpm:∀r pm h',M r pm h'->pm≠none) (hok:∀v m' h',M (.ok v) (some m') h'->wP P cf ts ds (xY m') h' K) (jH:∀ch m' h',M (.fJ ch) (some m') h'->wP P cf ts ds (Be m' ch) h' K):
 wP P cf ts ({target:=.fn fn ⟨captured⟩,args:=⟨args⟩}::ds) m h K:=by
 intro β w F cs Qr hG hW hmr hd ht hf hcf;generalize hdd:F.defers=d at hd;cases hd with
 | @fn _ fn' _ c' _ a' _ ds' h1 h2 h3 hl=>
   obtain⟨nx,F0,n1,n2,n3⟩:=hc β w fn' a' c' hG hW h1 h3 h2;obtain⟨r,pm',h',β',w',r',cs1,q1,q2,q3,q4,q5,q6⟩:=n3 ({F with defers:=ds'}::cs) (λm0 hm0=>by simp only[aA]at hm0;subst hm0;exact⟨_,cs,rfl,hmr⟩);cases q5 with
   |some _ m' _ _ mr Qs=>
   rcases q6 with⟨f,args',F1,e1,e2,e3,e4,e5⟩|⟨e1,_⟩
   ·subst e1;simp only[entry,aA]at n2;subst n2;have hrun:=MR.Qp hmr hm;have hle:=q3.le hW.dom;have s1:=step_defer (cs:=cs) hrun hdd rfl n1;have hk:F1.kind=.deferred:=e4;cases q4 with
    | @ok v v' hv=>
      have s2:=step_going_returned (c:={{F with defers:=ds'}with mode:=mr}) (cs:=cs) hk e5;obtain⟨rr,h2',β2,w2,F2,r2,p1,p2,p3,p4,p5,p6,p7,p8⟩:=hok v m' h' q1 β' w' {{F with defers:=ds'}with mode:=settle mr} cs Qr (hG.le hle) q2 (Zy Qs) (hl.mono hle) (Qq hle ht) hf hcf;exact pb
    | @fJ ch ch' hch=>
      have s2:=step_going_panicked (c:={{F with defers:=ds'}with mode:=mr}) (cs:=cs) e5;obtain⟨rr,h2',β2,w2,F2,r2,p1,p2,p3,p4,p5,p6,p7,p8⟩:=jH ch m' h' q1 β' w' {{F with defers:=ds'}with mode:=raised mr ch'} cs Qr (hG.le hle) q2 (Zz Qs hch) (hl.mono hle) (Qq hle ht) hf hcf;exact pb
   ·cases e1.1
variable{q:gD}
theorem Qt{K:KR}(M:KR)(hc:mG P q h M)(hk:∀r pm h',M r pm h'->K r pm h'):mG P q h K:=by
 intro β w fn' args' cap' hG hW hf ha hcap;obtain⟨nx,F0,n1,n2,n3⟩:=hc β w fn' args' cap' hG hW hf ha hcap;refine⟨nx,F0,n1,n2,λcs0 hcs=>?_⟩;obtain⟨r,pm',h',β',w',r',cs1,q1,q2,q3,q4,q5,q6⟩:=n3 cs0 hcs;exact⟨r,pm',h',β',w',r',cs1,hk _ _ _ q1,q2,q3,q4,q5,q6⟩
variable{f:FuncId}
theorem Gq{t:TypeId}{v:Value}{name:String}{r:Value}(h:Bf P t v name=some (f,r)):r=v/\∀(n:Nat) (v':Value) (w:World),(method (n+1) t v' name).run P w=.ok (f,v') w:=by
 unfold Bf at h;split at h
 ·cases h
 ·rename_i info hi;split at h
  ·cases h
  ·rename_i m hm;split at h
   ·cases h
   ·rename_i hp;have hp0:m.path= #[]:=WC (by simpa using hp);split at h
    ·rename_i f0 ptr hfn;have Qu:∀(v':Value) (w:World),(follow m.path.toList t (.val v')).run P w=.ok (t,.val v') w:=λv' w=>by rw[hp0];rfl
     split at h
     ·rename_i e hu;simp only[aA,cO]at h;obtain⟨rfl,rfl⟩:=h;refine⟨rfl,λn v' w=>?_⟩;simp only[method,dz,Dk hi,dD,hm,Qu,hfn,receiverAt,fE hu,Place.get,eX]
     ·cases h
     ·rename_i d ZB hu;simp only[aA,cO]at h;obtain⟨rfl,rfl⟩:=h;refine⟨rfl,λn v' w=>?_⟩;simp only[method,dz,Dk hi,dD,hm,Qu,hfn,receiverAt,fE hu];cases d<;>first|rfl|exact absurd rfl (ZB _)
     ·cases h
    ·cases h
theorem Qv(ht:target P q=some (f,args)){β:aC}{fn':Fn}{args' cap':List Value}(hf:FR β q.fn fn')(ha:aZ β q.args args')(hc:aZ β q.captured cap'){fn:Func}(hfn:P.funcs[f]? =some fn){body:Code}(hb:fn.body=some body)
 (hname:fn.name≠ "runtime.NumGoroutine") (w:World):∃jN,(invoke (.fn fn' ⟨cap'⟩) ⟨args'⟩).run P w=.ok (.enter f ⟨jN⟩) w/\aZ β args jN:=by
 have hcall:∀(xs:Array Value),(callFunc f xs).run P w=.ok (.enter f xs) w:=λxs=>by
  exact mj
 have Lb:∀(t:TypeId) (v v' r:Value) (name:String) (xs:List Value),Bf P t v name=some (f,r)->(callMethod (.iface t v') name ⟨xs⟩).run P w=.ok (.enter f ⟨v'::xs⟩) w:=λt v v' r name xs hm=>by
  obtain⟨_,h2⟩:=Gq hm;have hd:P.types.size+Made.depth=(P.types.size+(Made.depth - 1))+1:=rfl;have he:(#[v']:Array Value)++(⟨xs⟩:Array Value)=⟨v'::xs⟩:=zc
  simp only[callMethod,dz,run_program,dD,hd,h2,he];exact hcall _
 unfold target at ht;cases DV:q.fn with
 |func f0=>
  rw[DV]at ht hf;simp only[aA,cO]at ht;obtain⟨rfl,rfl⟩:=ht;cases hf;refine⟨args'++cap',?_,by rw[jF];exact ha.append hc⟩;have:(⟨args'⟩:Array Value)++(⟨cap'⟩:Array Value)=⟨args'++cap'⟩:=zc
  simp only[invoke,this];exact hcall _
 |method name=>
  rw[DV]at ht hf;simp only at ht;cases hf;split at ht
  ·rename_i t v as Lc;split at ht
   ·rename_i f1 r hm;simp only[aA,cO]at ht;obtain⟨rfl,rfl⟩:=ht;rw[Lc]at ha;cases ha with
    | @cons _ x' _ as' hv hl=>
      obtain⟨v',hv',rfl⟩:=hv.zH;obtain⟨rfl,_⟩:=Gq hm;refine⟨v'::as',?_,.cons hv' hl⟩;have h0:(⟨Value.iface t v'::as'⟩:Array Value)[0]? =some (.iface t v'):=rfl;have h1:(⟨Value.iface t v'::as'⟩:Array Value).extract 1 (⟨Value.iface t v'::as'⟩:Array Value).size=⟨as'⟩:=by apply Array.ext';simp[OO]
      simp only[invoke,h0,h1];exact Lb t _ v' _ name as' hm
   ·cases ht
  ·cases ht
 |methodOf t name=>
  rw[DV]at ht hf;simp only at ht;cases hf;split at ht
  ·rename_i x as Lc;rw[Lc]at ha;cases ha with
   | @cons _ x' _ as' hv hl=>
     have h0:(⟨x'::as'⟩:Array Value)[0]? =some x':=rfl;have h1:(⟨x'::as'⟩:Array Value).extract 1 (⟨x'::as'⟩:Array Value).size=⟨as'⟩:=by apply Array.ext';simp[OO]
     split at ht
     ·rename_i ms hu;split at ht
      ·rename_i t2 v;split at ht
       ·rename_i f1 r hm;simp only[aA,cO]at ht;obtain⟨rfl,rfl⟩:=ht;obtain⟨v',hv',rfl⟩:=hv.zH;obtain⟨rfl,_⟩:=Gq hm;refine⟨v'::as',?_,.cons hv' hl⟩;simp only[invoke,h0,h1,dz,fE hu,dD];exact Lb t2 _ v' _ name as' hm
       ·cases ht
      ·cases ht
     ·rename_i d hni hu;split at ht
      ·rename_i f1 r hm;simp only[aA,cO]at ht;obtain⟨rfl,rfl⟩:=ht;obtain⟨rfl,_⟩:=Gq hm;refine⟨x'::as',?_,.cons hv hl⟩;simp only[invoke,h0,h1,dz,fE hu,dD];exact Lb t _ x' _ name as' hm
      ·cases ht
     ·cases ht
  ·cases ht
 |via t p f0 b=>rw[DV]at ht;cases ht
 |yield l=>rw[DV]at ht;cases ht
end Go.Ideal
namespace Go.Ideal
variable {P:Program}
theorem ZC(v:Value)(l:List Value)(i:Nat)(t:T Value):wF (v::l) i t=wF l (i+1) (t.set i (some v)):=rfl
theorem Qw:∀(l:List Value) (i:Nat) (t:T Value) (j:Nat),dF (wF l i t) j=if i<=j/\j<i+l.length then l.getD (j - i) dO else dF t j:=by
 intro l;induction l with
 |nil=>intro i t j;rw[if_neg vm];rfl
 |cons v l ih=>
  intro i t j;rw[ZC,ih,Bj];by_cases h:i+1<=j/\j<i+1+l.length
  ·rw[if_pos h,if_pos wx];have:j - i=(j - (i+1))+1:=by omega
   rw[this];rfl
  ·rw[if_neg h];by_cases e:j=i
   ·subst e;rw[if_pos rfl,if_pos vm];simp
   ·rw[if_neg e,if_neg wx]
theorem Qx(a b:Nat):qR a b=max a b:=by
 unfold qR;cases hb:Nat.ble a b with
 |true=>have:=mD hb;show b=_;omega
 |false=>
  have:¬a<=b:=λhh=>by rw[Fv hh]at hb;cases hb
  show a=_;omega
theorem ZE{β:aC}{n:Nat}{args jN:List Value}(h:aZ β args jN)(pm:Option FrameMode):AR β none' (zy n args pm) ((⟨jN⟩:Array Value)++Array.replicate (n - jN.length) undef) []:=by
 have hlen:=h.length;refine⟨?_,λi _=>?_,λi hi=>?_,.nil⟩
 ·show _=qR n (iF args);rw[Qx,wJ];simp;omega
 ·show VR β (dF (wF args 0 .leaf) i) _;rw[Qw];by_cases hi:i<args.length
  ·rw[if_pos ⟨vj,vj⟩];obtain⟨v',h1,h2⟩:=h.get (bW hi);have e1:args.getD (i - 0) dO=args[i]:=by simp[hi]
   rw[e1,rX,akS wx];have:(⟨jN⟩:Array Value)[i]? =some v':=ya
   rw[this];exact h2
  ·rw[if_neg vj];exact .dO _
 ·show dF (wF args 0 .leaf) i=dO;have:qR n (iF args)<=i:=hi;rw[Qx,wJ]at this;rw[Qw,if_neg vj];rfl
theorem ZF{q:gD}{h:IH}{K:KR}(f:FuncId)(args:List Value)(ht:target P q=some (f,args))(fn:Func)(hf:P.funcs[f]? =some fn)(cf:gU)(hcf:tX P fn=some cf)(M:KO)(h1:kX P cf.body (zy cf.ntmps args q.pm) h M)
 (h2:∀o a' h',M o a' h'->tY o≠none) (h3:∀o a' h' m,M o a' h'->tY o=some m->wP P cf a'.tmps a'.defers m h' λr h''=>K r a'.pm h''):mG P q h K:=by
 intro β w fn' args' cap' hG hW hfr ha hcap;have ZG:=hcf;unfold tX at hcf;split at hcf
 ·rename_i body rs hb hrs;split at hcf
  ·cases hcf
  rename_i hname;simp only[aA]at hcf;subst hcf;obtain⟨jN,t1,t2⟩:=Qv ht hfr ha hcap hf hb hname w;refine⟨_,Frame.enter P f ⟨jN⟩ (kindOf q.pm),t1,rfl,λcs0 zO=>?_⟩;let b:Frame:={(default:Frame)with fn:=f,kind:=kindOf q.pm}
  have hent:Frame.enter P f ⟨jN⟩ (kindOf q.pm)=fr b ((⟨jN⟩:Array Value)++Array.replicate (fn.ntmps - jN.length) undef) [] [.code body]:=by
   simp[Frame.enter,fr,hf,hb,b];rfl
  have hcx:CX P β q.pm none b cs0:=⟨⟨fn,hf⟩,.inl ⟨rfl,rfl⟩,rfl,zO⟩
  obtain⟨o,a',h',β',w',tm',fV,cs',q1,q2,q3,q4,q5,q6,q7⟩:=h1 body _ rfl (.inl rfl) β w b _ [] [] cs0 hG hW (ZE t2 q.pm) hcx;rw[<- hent]at q7;have hle:=q3.le hW.dom
  -- the frame is left
  have leave:∀(m:FrameMode) (F:Frame),tY o=some m->MR β' m F.mode->F.defers=fV->F.tmps=tm'->F.fn=f->F.kind=kindOf q.pm->Steps P (lone (Frame.enter P f ⟨jN⟩ (kindOf q.pm)) cs0 w) (lone F cs' w')->
   ∃r pm' h' β' w' r' cs1,K r pm' h'/\WR P β' h' w'/\Eff β h w β' h' w'/\RR β' r r'/\nJ β' q.pm pm' cs0 cs1/\
   ((∃f1 ZH F1,Next.enter f ⟨jN⟩=.enter f1 ZH/\Steps P (lone (Frame.enter P f ⟨jN⟩ (kindOf q.pm)) cs0 w) (lone F1 cs1 w')/\F1.fn=f1/\F1.kind=kindOf q.pm/\F1.going P w' r')\/
    ((q.pm=none/\∃l,q.fn=.yield l)/\∀c rest,cs1=c::rest->Steps P (lone (Frame.enter P f ⟨jN⟩ (kindOf q.pm)) cs0 w) (lone (recv c r') rest w'))):=by
   intro m F hm hmr hdf ZI hfn hkd hst;obtain⟨r,h2',β2,w2,F1,r',p1,p2,p3,p4,p5,p6,p7,p8⟩:=h3 o a' h' m q1 hm β' w' F cs' fn (hG.le hle) q2 hmr (by rw[hdf];exact q4.defers) (λi=>by rw[ZI];exact q4.tmps i λhh=>hh) (by rw[hfn];exact hf) ZG;exact⟨r,a'.pm,h2',β2,w2,r',cs',p1,p2,q3.trans p3,p4,q5.mono (p3.le q2.dom),.inl ⟨f,⟨jN⟩,F1,rfl,hst.trans p5,by rw[p7,hfn],by rw[p6,hkd],p8⟩⟩
  cases o with
  |normal=>exact leave .returning {fr b tm' fV []with mode:=.returning} rfl .returning rfl rfl rfl rfl (Steps.trans q7 (.one (Yn rfl)))
  |exit id=>exact absurd rfl (h2 _ _ _ q1)
  |ret=>
   obtain⟨todo,e2⟩:=q7;exact leave .returning {fr b tm' fV (.code .ret::todo)with mode:=.returning} rfl .returning rfl rfl rfl rfl (Steps.trans e2 (.one (Ym rfl)))
  |panic ch=>
   obtain⟨todo,ch',e1,e2⟩:=q7;exact leave (.panicking ch) {fr b tm' fV todo with mode:=.panicking ch'} rfl (.panicking e1) rfl rfl rfl rfl e2
 ·cases hcf
end Go.Ideal
namespace Go.Ideal
variable {P:Program}
mutual
theorem VR.restrict{β β':aC}(hle:β.le β'):∀{v v0 v':Value},VR β v v0->VR β' v v'->VR β v v'
 |_,_,_,.dO _,_=>.dO _
 |_,_,_,.skip,k=>by cases k;exact .skip
 |_,_,_,.bool _,k=>by cases k;exact .bool _
 |_,_,_,.int _ _,k=>by cases k;exact .int _ _
 |_,_,_,.float _ _,k=>by cases k;exact .float _ _
 |_,_,_,.complex _ _ _,k=>by cases k;exact .complex _ _ _
 |_,_,_,.string _,k=>by cases k;exact .string _
 |_,_,_,.nilFunc,k=>by cases k;exact .nilFunc
 |_,_,_,.nilIface,k=>by cases k;exact .nilIface
 |_,_,_,.xZ,k=>by cases k;exact .xZ
 |_,_,_,.ptr hi,k=>by
  obtain⟨g,h1,rfl⟩:=k.uk;rw[hle _ _ hi]at h1;cases h1;exact .ptr hi
 |_,_,_,.sl0 _ _,k=>by cases k;exact .sl0 _ _
 |_,_,_,.ak hi hb hn ha,k=>by
  obtain⟨g,a,c',q1,rfl,q3,q4,q5,q6,q7,q8⟩:=k.nI;rw[hle _ _ hi]at q1;cases q1;rcases q8 with⟨_,rfl⟩|⟨q8,r1,_,_⟩
  ·exact .ak hi q3 q5 q7
  ·simp only[aA]at q8;omega
 |_,_,_,.pE hi hb hs hn hz hl ht hc ha,k=>by
  obtain⟨g,a,c',q1,rfl,q3,q4,q5,q6,q7,q8⟩:=k.nI;rw[hle _ _ hi]at q1;cases q1;rcases q8 with⟨q8,_⟩|⟨_,_,r2,r3,r4⟩
  ·simp only[aA]at q8;omega
  ·exact .pE hi q3 r4 q5 hz r2 r3 q6 (q7.imp id (·.1))
 |_,_,_,.wK,k=>by cases k;exact .wK
 |_,_,_,.map hi,k=>by
  obtain⟨g,h1,rfl⟩:=k.Br;rw[hle _ _ hi]at h1;cases h1;exact .map hi
 |_,_,_,.func hf h1 h2,k=>by
  obtain⟨fn',f',c',k1,k2,k3,rfl⟩:=k.zI;refine .func ?_ (aZ.restrict hle h1 k2) (aZ.restrict hle h2 k3);cases hf with
  |func f=>cases k1;exact .func f
  |method n=>cases k1;exact .method n
  |methodOf t n=>cases k1;exact .methodOf t n
  |yield hl=>cases k1 with|yield hl'=>rw[hle _ _ hl]at hl';cases hl';exact .yield hl
 |_,_,_,.iface t hv,k=>by
  obtain⟨u',k1,rfl⟩:=k.zH;exact .iface t (VR.restrict hle hv k1)
 |_,_,_,.agg hc hl,k=>by
  obtain⟨l',k1,_,rfl⟩:=k.Km;exact .agg hc (aZ.restrict hle hl k1)
 |_,_,_,.tuple hl,k=>by
  cases k with
  |dO=>cases hl;exact .dO _
  |tuple k1=>exact .tuple (aZ.restrict hle hl k1)
theorem aZ.restrict{β β':aC}(hle:β.le β'):∀{v v0 v':List Value},aZ β v v0->aZ β' v v'->aZ β v v'
 |_,_,_,.nil,k=>by cases k;exact .nil
 |_,_,_,.cons hv hl,k=>by
  cases k with
  |cons k1 k2=>exact .cons (VR.restrict hle hv k1) (aZ.restrict hle hl k2)
end
theorem fP.restrict{β β':aC}(hle:β.le β'){l l0 l':List MapEntry}(h:fP β l l0)(k:fP β' l l'):fP β l l':=by
 induction h generalizing l' with
 |nil=>cases k;exact .nil
 |cons hk hf hb hv hl ih=>
  cases k with
  |cons hk' hf' hb' hv' hl'=>exact .cons hk' hf' hb' (hv.restrict hle hv') (ih hl')
theorem OR.restrict{β β':aC}(hle:β.le β'){g:iD}{w w':World}{o:dQ}(h:OR P β g w o)(k:OR P β' g w' o):OR P β g w' o:=by
 cases o with
 |cells cs=>
  obtain⟨_,_,_,_,_,a7⟩:=h;obtain⟨b1,b2,b3,b5,b6,b7⟩:=k;refine⟨b1,b2,b3,b5,b6,λj v hj=>?_⟩;exact pD
 |je cs=>
  obtain⟨_,_,_,a7⟩:=h;obtain⟨b1,b2,b6,b7⟩:=k;refine⟨b1,b2,b6,λj v hj=>?_⟩;exact pD
 |map es clock=>
  obtain⟨es0,_,h0⟩:=h;obtain⟨es',h1,h2⟩:=k;exact⟨es',h1,h0.restrict hle h2⟩
 |zo s pos=>exact k
 |mapIter m since seen stepped=>
  obtain⟨m0,s0,_,_,h0,_⟩:=h;obtain⟨m',s',h1,h2,h3,h4⟩:=k;exact⟨m',s',h1,h2,h0.restrict hle h3,h4⟩
 |loop r=>
  obtain⟨r0,_,h0⟩:=h;obtain⟨r',h1,h2⟩:=k;obtain⟨g0,e1,_⟩:=h0.defers;obtain⟨g1,e2,e3⟩:=h2.defers;rw[hle _ _ e1]at e2;cases e2;exact⟨r',h1,⟨h2.state,h2.pending,h2.Dj,h2.size,λi=>(h0.tmps i).restrict hle (h2.tmps i),h2.out,h2.params,h2.assign,h2.body,⟨_,e1,e3⟩,h2.Bl⟩⟩
 |iY b=>exact k
theorem WR.low{β:aC}{h:IH}{w:World}(hW:WR P β h w)(n:Nat):WR P β {h with low:=n} w:=⟨hW.dom,hW.live,hW.obj,hW.inj⟩
theorem ZJ{q:gD}{h:IH}{K:KR}(cs:List Value)(n f:Nat)(hcs:fO cs=true)(hne:cs≠[])(hf:f=0\/cs.length=n*f)(M:KR)(hc:mG P q {h with low:=h.next} M)(hq:q.pm=none)
 (h1:∀r pm h',M r pm h'->pm=none/\h'.low=h.next/\∃i o c,r=.ok (.slice (some ⟨i,o,some f⟩) n c)/\h.next<=i/\(f=0->c=n)/\h'.nT i o cs.length=some cs)
 (hk:K (.ok (.slice (some ⟨h.next,0,some f⟩) n n)) none (h.new (.cells cs))):mG P q h K:=by
 intro β w fn' args' cap' hG hW hfr ha hcap;obtain⟨nx,F0,n1,n2,n3⟩:=hc β w fn' args' cap' hG (hW.low _) hfr ha hcap;refine⟨nx,F0,n1,n2,λcs0 zO=>?_⟩;obtain⟨r,pm',h',β',w',r',cs1,q1,q2,q3,q4,q5,q6⟩:=n3 cs0 zO;obtain⟨hpm,hlow,i,o,c,rfl,hi,hfc,hcells⟩:=h1 r pm' h' q1;subst hpm;cases q4 with
 | @ok v v' hv=>
   obtain⟨g,a,c',hg,hv',ha1,ha2,hn,hcc,hoff,hkind⟩:=hv.nI;obtain⟨cells,hget,htake⟩:=Pq hcells;rw[sD,qV]at htake;split at htake
   ·rename_i hle;simp only[aA]at htake;obtain⟨o1,o2,o3,o5,o6,o7⟩:=q2.obj i g _ hg hget
    -- what the result stands for
    let g1:iD:=⟨g.b,g.off+o,cs.length,g.top,g.sz⟩
    let β2:aC:=λj=>if j<h.next then β j else if j=h.next then some g1 else none
    have hb2:∀j k,β2 j=some k->(j<h.next/\β j=some k/\β' j=some k)\/(j=h.next/\k=g1):=λj k hk=>by
     simp only[β2]at hk;split at hk
     ·rename_i hj;exact .inl ⟨hj,hk,(q3.agree j hj).trans hk⟩
     ·split at hk
      ·rename_i hj;simp only[aA]at hk;exact .inr ⟨hj,hk.symm⟩
      ·cases hk
    have hold:∀j,j<h.next->h'.get j=h.get j:=λj hj=>q3.kept j (by rw[hlow];exact hj) hj
    have hnew:∀j,(h.new (.cells cs)).get j=if j=h.next then some (.cells cs)else h.get j:=λj=>IH.iZ _ _ _
    have hle2:β.le β2:=λj k hk=>by
     have:=hW.dom j k hk;simp only[β2];rw[if_pos this];exact hk
    have Qy:∀(j:Nat) v,cs[j]? =some v->bY v=true:=λj v hj=>by
     have:∀(l:List Value),fO l=true->∀v∈l,bY v=true:=by
      intro l;induction l with
      |nil=>intro _ v hv;simp at hv
      |cons x l ih=>
       intro hl v hv;simp[fO]at hl;rcases dH.1 hv with rfl|hv
       ·exact hl.1.1
       ·exact ih hl.2 v hv
     exact this cs hcs v (aP hj)
    have ZK:∀(j:Nat) v,cs[j]? =some v->w'.cell? ⟨g.b,g.off+o+j,none⟩=some v:=λj v hj=>by
     have hj2:cells[o+j]? =some v:=by
      rw[<- htake,tO]at hj;split at hj
      ·rw[qK]at hj;exact hj
      ·cases hj
     obtain⟨v',t1,t2⟩:=o7 (o+j) v hj2;rw[t2.pF (Qy j v hj)]at t1;rw[qb];exact t1
    have hlen:o+cs.length<=cells.length:=by
     simp at hle;have h0:0<cs.length:=AX.2 hne;omega
    have ZL:OR P β2 g1 w' (.cells cs):=⟨o1,rfl,by show g.off+o+cs.length<=g.top;omega,o5,ug hcs,λj v hj=>⟨v,ZK j v hj,VR.free (Qy j v hj)⟩⟩
    have hW2:WR P β2 (h.new (.cells cs)) w':=by
     refine⟨?_,?_,?_,?_⟩
     ·intro j k hk;show j<h.next+1
      rcases hb2 j k hk with⟨hj,_⟩|⟨hj,_⟩<;>omega
     ·intro j x hx;show j<h.next+1
      rw[hnew]at hx;split at hx
      ·omega
      ·have:=hW.live j x hx;omega
     ·intro j k x hk hx;rw[hnew]at hx;rcases hb2 j k hk with⟨hj,hb,hb'⟩|⟨hj,rfl⟩
      ·rw[if_neg vj]at hx;have hx':h'.get j=some x:=by rw[hold j hj];exact hx
       exact((hW.obj j k x hb hx).restrict (q3.le hW.dom) (q2.obj j k x hb' hx')).mono hle2
      ·rw[if_pos hj]at hx;simp only[aA]at hx;subst hx;exact ZL
     ·intro j l k m hk hm hj hl hr he;rw[hnew]at hj hl;rcases hb2 j k hk with⟨hjn,_,hb'⟩|⟨hjn,rfl⟩
      ·rw[if_neg vj]at hj;rcases hb2 l m hm with⟨hln,_,Ld⟩|⟨hln,rfl⟩
       ·rw[if_neg vj]at hl;exact q2.inj j l k m hb' Ld (by rw[hold j hjn];exact hj) (by rw[hold l hln];exact hl) (hr.imp (λq cs e=>q cs (by rw[hnew,if_neg vj,<- hold j hjn];exact e)) (λq cs e=>q cs (by rw[hnew,if_neg vj,<- hold l hln];exact e))) he
       ·have:=q2.inj j i k g hb' hg (by rw[hold j hjn];exact hj) (by rw[hget];simp) (.inr (by rw[hget];intro cs e;cases e)) he;omega
      ·rcases hb2 l m hm with⟨hln,_,Ld⟩|⟨hln,rfl⟩
       ·rw[if_neg vj]at hl;have:=q2.inj l i m g Ld hg (by rw[hold l hln];exact hl) (by rw[hget];simp) (.inr (by rw[hget];intro cs e;cases e)) he.symm;omega
       ·omega
    have Qz:β2 h.next=some g1:=by simp only[β2];rw[if_neg vj];simp
    have hE:Eff β h w β2 (h.new (.cells cs)) w':=
     {agree:=λj hj=>by simp only[β2];rw[if_pos hj]
      next:=AU _
      alive:=λj hj hn=>by rw[hnew,if_neg vj]at hn;exact hn
      hid:=λj hj _=>by rw[hnew,if_neg vj]
      low:=bV _
      kept:=λj _ hj=>by rw[hnew,if_neg vj]
      os:=q3.os,tape:=q3.tape,output:=q3.output,drawn:=q3.drawn,size:=q3.size,keep:=q3.keep
      sF:=λj k _ hj hk hn hb=>q3.sF j k (by rw[hlow];exact hj) hj hk hn hb
      fresh:=λj k hk hj=>by
       rcases hb2 j k hk with⟨hjn,_⟩|⟨_,rfl⟩
       ·omega
       ·exact q3.fresh i g hg hi}
    have ZM:VR β2 (.slice (some ⟨h.next,0,some f⟩) n n) v':=by
     subst hv';rcases hkind with⟨e1,e2⟩|⟨e1,e2,e3,e4,e5⟩
     ·simp only[aA]at e1;have:=hfc e1;subst e1 e2 this;exact .ak Qz ha1 (bV _) (by
       rcases hoff with hh|⟨hh,hs⟩
       ·exact .inl hh
       ·exact .inr ⟨by rw[hh];rfl,hs⟩)
     ·simp only[aA]at e1;subst e1;have hcl:cs.length=n*g.sz:=hf.resolve_left vj;exact .pE (g:=g1) Qz ha1 e5 (bV _) e2 (by show 0+n*g.sz=cs.length;omega) (by show g.off+o+0+c'*g.sz=g.top;omega) (oW hn hcc) (by
       rcases hoff with hh|⟨hh,_⟩
       ·exact .inl hh
       ·exact .inr (by rw[hh];rfl))
    exact⟨_,none,_,β2,w',.returned v',cs1,hk,hW2,hE,.ok ZM,by rw[hq]at q5⊢;cases q5;exact .none _,by
     rcases q6 with h6|h6
     ·exact .inl h6
     ·exact .inr h6⟩
   ·cases htake
