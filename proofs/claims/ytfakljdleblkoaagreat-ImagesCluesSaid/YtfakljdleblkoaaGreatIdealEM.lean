/-
  The ideal machine, 25: regions as compiled.
-/
import Derived.Test.YtfakljdleblkoaaGreatIdealDM
import Derived.Orders
set_option linter.all false
namespace Go.Ideal
variable {P:Program}
theorem Tq{α γ:Type}{f:α->Option γ}{x:α}{l:List α}{r:List γ}(h:(x::l).mapM f=some r):∃y r',f x=some y/\l.mapM f=some r'/\r=y::r':=by
 simp only[List.mapM_cons]at h;cases hx:f x with
 |none=>rw[hx]at h;cases h
 |some y=>
  rw[hx]at h;cases hl:l.mapM f with
  |none=>rw[hl]at h;cases h
  |some r'=>
   rw[hl]at h;simp only[Option.bind_eq_bind,iU,Option.pure_def,aH]at h;exact⟨y,r',rfl,rfl,h.symm⟩
def zm(i j:Nat):Bool:=decide (j<i)
theorem abK(ops:Array Oper):∀(os:List Oper) (k:Nat) (done:List Nat) (l:List bP),ops.toList.drop k=os->(∀j,j∈done↔j<k)->
 (os.mapM λo=>(Ex P ops o).map λs=>(⟨s,[]⟩:bP))=some l->k+os.length=ops.size->zl P ops zm (λ_=>true) (List.range' k os.length) done l:=by
 intro os;induction os with
 |nil=>
  intro k done l _ hd hm hk;simp only[List.mapM_nil,Option.pure_def,aH]at hm;exact⟨hm.symm,λi hi=>(hd i).2 (by simp at hk;omega)⟩
 |cons o os ih=>
  intro k done l hdrop hd hm hk;obtain⟨p,r,h1,h2,rfl⟩:=Tq hm;have hlt:k<ops.size:=by simp at hk;omega
  have hko:ops[k]? =some o:=by
   have:(ops.toList.drop k)[0]? =some o:=by rw[hdrop];rfl
   rw[oh]at this;simpa using this
  cases hs:Ex P ops o with
  |none=>rw[hs]at h1;cases h1
  |some s=>
   rw[hs]at h1;simp only[jZ,aH]at h1;subst h1;have hbef:∀j∈done,zm k j=true:=λj hj=>by have:=(hd j).1 hj;simpa[zm]using this
   have hstep:uO ops zm (λ_=>true) done k:=
    {lt:=hlt,new:=λhc=>(by have:=(hd k).1 hc;omega),pre:=λj hj=>(hd j).2 (by simpa[zm]using hj)
     heavy:=λ_=>⟨λj hj _=>hbef j hj,λj _ hj=>(by cases hj)⟩
     own:=λhc=>(by cases hc)
     put:=λo' d _ _ j hj p _ _=>⟨rfl,hbef j hj⟩
     look:=λo' _ j hj p _ d _ _=>hbef j hj}
   refine⟨hstep,s,[],r,rfl,by simp[j6,hko,hs],λhc=>(by cases hc),λ_ j _ hj=>(by cases hj),?_⟩;refine ih (k+1) (k::done) r ?_ (λj=>?_) h2 (by simp at hk;omega)
   ·rw[<- List.drop_drop,hdrop];rfl
   ·rw[bN,hd];omega
theorem abL(n:Nat)(ops:Array Oper)(hn:ops.size=n):∀(m k:Nat) (S:List Nat),k+m=n->(∀j,j∈S↔j<k)->uP ops zm S (List.range' k m):=by
 intro m;induction m with
 |zero=>intro k S hk hS i hi tQ;exact absurd ((hS i).2 (by omega)) tQ
 |succ m ih=>
  intro k S hk hS;refine⟨by omega,λhc=>by have:=(hS k).1 hc;omega,λj hj=>(hS j).2 (by simpa[zm]using hj),?_⟩;refine ih (k+1) (k::S) (by omega) λj=>?_;rw[bN,hS];omega
def direct(ops:Array Oper)(i j:Nat):Prop:=∃o,ops[i]? =some o/\∃e∈o.after.toList,Region.binds .any e=true/\e.on=j
theorem abM(look:Nat->Nat)(j:Nat):∀(l:List Edge) (s:Nat),(l.foldl (λs e=>if Region.binds .any e then s|||2^e.on|||look e.on else s) s).testBit j=true↔
 s.testBit j=true\/∃e∈l,Region.binds .any e=true/\(e.on=j\/(look e.on).testBit j=true):=by
 intro l;induction l with
 |nil=>intro s;simp
 |cons e l ih=>
  intro s;simp only[sN];rw[ih];cases hb:Region.binds .any e with
  |false=>simp[hb]
  |true=>
   simp only[if_true,Nat.testBit_or,wW,Nat.testBit_two_pow,BX,bN,exists_eq_or_imp,hb,true_and];constructor
   ·rintro((h|h)|h)
    ·rcases h with h|h
     ·exact .inl h
     ·exact .inr (.inl (.inl h))
    ·exact .inr (.inl (.inr h))
    ·exact .inr (.inr h)
   ·rintro(h|(h|h)|h)
    ·exact .inl (.inl (.inl h))
    ·exact .inl (.inl (.inr h))
    ·exact .inl (.inr h)
    ·exact .inr h
theorem abN(l:List Oper):∀(A:Array Nat),let B:=l.foldl (λ(acc:Array Nat) o=>acc.push (o.after.foldl (λs e=>if Region.binds .any e then s|||2^e.on|||acc.getD e.on 0 else s) 0)) A
 B.size=A.size+l.length/\(∀i,i<A.size->B.getD i 0=A.getD i 0)/\∀(i:Nat) o,l[i]? =some o->∃look:Nat->Nat,B.getD (A.size+i) 0=o.after.toList.foldl (λs e=>if Region.binds .any e then s|||2^e.on|||look e.on else s) 0/\∀k,look k=if k<A.size+i then B.getD k 0 else 0:=by
 induction l with
 |nil=>intro A;exact⟨rfl,λ_ _=>rfl,λi o h=>by simp at h⟩
 |cons o l ih=>
  intro A;simp only[sN];let v:=o.after.foldl (λs e=>if Region.binds .any e then s|||2^e.on|||A.getD e.on 0 else s) 0
  obtain⟨h1,h2,h3⟩:=ih (A.push v);refine⟨by rw[h1];simp;omega,λi hi=>?_,λi o' ho'=>?_⟩
  ·rw[h2 i (by simp;omega)];simp[sS,GH,show i≠A.size by omega]
  ·cases i with
   |zero=>
    simp only[Ah,aH]at ho';subst ho';refine⟨λk=>A.getD k 0,?_,λk=>?_⟩
    ·rw[Af,h2 A.size (by simp)];have:(A.push v).getD A.size 0=v:=by simp[sS]
     rw[this];show o.after.foldl _ 0=_;rw[<- Rn]
    ·simp only[Af];by_cases hk:k<A.size
     ·rw[if_pos hk,h2 k (by simp;omega)];simp[sS,GH,show k≠A.size by omega]
     ·rw[if_neg hk];simp[sS,sM (Nat.le_of_not_lt hk)]
   |succ i=>
    obtain⟨look,q1,q2⟩:=h3 i o' (by simpa using ho');refine⟨look,?_,λk=>?_⟩
    ·rw[<- q1];simp only[Array.size_push];congr 1;omega
    ·rw[q2];simp only[Array.size_push];by_cases hk:k<A.size+1+i
     ·rw[if_pos hk,if_pos (by omega)]
     ·rw[if_neg hk,if_neg (by omega)]
theorem Ng(ops:Array Oper)(i j:Nat)(hi:i<ops.size):qF ops i j=true↔direct ops i j\/∃k,direct ops i k/\k<i/\qF ops k j=true:=by
 obtain⟨_,_,h3⟩:=abN ops.toList #[];simp only[Array.size_empty,fw,List.size_toArray,Aj]at h3;obtain⟨look,q1,q2⟩:=h3 i ops[i] (by simp[hi]);have hB:Region.before ops=ops.toList.foldl (λ(acc:Array Nat) o=>acc.push (o.after.foldl (λs e=>if Region.binds .any e then s|||2^e.on|||acc.getD e.on 0 else s) 0)) #[]:=by
  unfold Region.before;rw[<- Rn]
 rw[<- hB]at q1 q2;show((Region.before ops).getD i 0).testBit j=true↔direct ops i j\/∃k,direct ops i k/\k<i/\((Region.before ops).getD k 0).testBit j=true;rw[q1,abM];simp only[Nat.zero_testBit,uE,false_or];have ho:ops[i]? =some ops[i]:=by simp[hi]
 constructor
 ·rintro⟨e,he,hb,h|h⟩
  ·exact .inl ⟨_,ho,e,he,hb,h⟩
  ·rw[q2]at h;split at h
   ·rename_i hlt;exact .inr ⟨e.on,⟨_,ho,e,he,hb,rfl⟩,hlt,h⟩
   ·simp at h
 ·rintro(⟨o,ho',e,he,hb,rfl⟩|⟨k,⟨o,ho',e,he,hb,rfl⟩,hk,h⟩)
  ·rw[ho]at ho';cases ho';exact⟨e,he,hb,.inl rfl⟩
  ·rw[ho]at ho';cases ho';exact⟨e,he,hb,.inr (by rw[q2,if_pos hk];exact h)⟩
end Go.Ideal
namespace Go.Ideal
variable {P:Program}
theorem Tt{ops:Array Oper}{done:List Nat}{i:Nat}(hi:i<ops.size):Az ops done i=true↔i∉done/\∀j,direct ops i j->j∈done:=by
 have ho:ops[i]? =some ops[i]:=by simp[hi]
 unfold Az;simp only[ho,eU,Cb,iV,wW];constructor
 ·rintro⟨h1,h2⟩;refine⟨λhc=>by simp[hc]at h1,?_⟩;rintro j ⟨o,ho',e,he,hb,rfl⟩;rw[ho]at ho';cases ho';rcases h2 e he with h|h
  ·rw[hb]at h;cases h
  ·simpa using h
 ·rintro⟨h1,h2⟩;refine⟨by simpa using h1,λe he=>?_⟩;cases hb:Region.binds .any e with
  |false=>exact .inl rfl
  |true=>exact .inr (by simpa using h2 e.on ⟨_,ho,e,he,hb,rfl⟩)
def closed(ops:Array Oper)(done:List Nat):Prop:=∀k∈done,∀j,qF ops k j=true->j∈done
theorem Tu{ops:Array Oper}{done:List Nat}(hcl:closed ops done){i:Nat}(hi:i<ops.size)(hd:∀j,direct ops i j->j∈done):∀j,qF ops i j=true->j∈done:=λj hj=>by
 rcases(Ng ops i j hi).1 hj with h|⟨k,h1,_,h2⟩
 ·exact hd j h
 ·exact hcl k (hd k h1) j h2
theorem abO(ops:Array Oper):∀(rest done:List Nat) (l:List bP),Ey ops (qF ops) (y9 P ops) rest done=true->Ez (qF ops) (j6 P ops) rest done=some l->closed ops done->
 zl P ops (qF ops) (y9 P ops) rest done l:=by
 intro rest;induction rest with
 |nil=>
  intro done l ho hp _;simp only[Ez,aH]at hp;refine⟨hp.symm,λi hi=>?_⟩;simp only[Ey,iV,o9]at ho;simpa using ho i hi
 |cons i rest ih=>
  intro done l ho hp hcl;simp only[Ey,eU]at ho;obtain⟨hs,ho⟩:=ho;simp only[Ez]at hp;split at hp
  ·rename_i s r hcs hr;simp only[aH]at hp;subst hp;obtain⟨o,hoi,gz,hdst,_⟩:=oC hcs;have hlt:i<ops.size:=(LP.1 hoi).1;have Tv:y9 P ops i=heavy s.op:=by simp[y9,hcs]
   unfold R5 at hs;rw[hoi]at hs;simp only[eU]at hs;obtain⟨⟨⟨s1,s2⟩,s3⟩,s4⟩:=hs;obtain⟨r1,r2⟩:=(Tt hlt).1 s1;have hpre:=Tu hcl hlt r2;have hstep:uO ops (qF ops) (y9 P ops) done i:=
    {lt:=hlt,new:=r1,pre:=hpre
     heavy:=λhv=>by
      rw[hv]at s2;simp only[Bool.not_true,Bool.false_or,eU,iV,wW,Cb,o9]at s2;refine⟨λj hj Ib=>(s2.1 j hj).resolve_left (by rw[Ib];simp),λj hj Ib hjd=>?_⟩;have hnr:=(s2.2 j hj).resolve_left (by rw[Ib];simp);refine Classical.byContradiction λhno=>?_;have:Az ops done j=true:=(Tt hj).2 ⟨hjd,λk hk=>Decidable.byContradiction λhkd=>hno ⟨k,(Ng ops j k hj).2 (.inl hk),hkd⟩⟩;rw[this]at hnr;cases hnr
     own:=λhv o' d ho' hd=>by
      rw[hoi]at ho';cases ho';rw[hd]at s3;simp only[hv,Bool.false_or,eU,Cb]at s3;intro hc;have:=s3.1;rw[GK.2 hc]at this;cases this
     put:=λo' d ho' hd j hj p hp' hc=>by
      rw[hoi]at ho';cases ho';rw[hd]at s3;simp only[eU,iV]at s3;have:=s3.2 j hj;rw[hp']at this;simp only at this;rw[if_pos (by
       simp only[wW];rcases hc with h|h
       ·exact .inl (GK.2 h)
       ·exact .inr (by rw[h];simp))]at this
      simpa using this
     look:=λo' ho' j hj p hp' d hd hdl=>by
      rw[hoi]at ho';cases ho';simp only[iV]at s4;have:=s4 j hj;rw[hp']at this;simp only[hd]at this;rw[if_pos (GK.2 hdl)]at this;exact this}
   have Nh:closed ops (i::done):=λk hk j hj=>by
    rcases bN.1 hk with rfl|hk
    ·exact bU _ (hpre j hj)
    ·exact bU _ (hcl k hk j hj)
   refine⟨hstep,s,_,r,rfl,hcs,λhv=>by rw[<- Tv];exact hv,λhv j hj Ib hb t ht hrd=>?_,ih (i::done) r ho hr Nh⟩;rw[Tv]at hv;rw[if_pos hv];refine LM.2 ⟨j,hj,?_⟩;rw[ht];simp only[hrd,hb,Bool.not_false,LQ,if_true]
  ·cases hp
theorem abP(ops:Array Oper):∀(fuel t:Nat) (listed:Array Bool) (S:List Nat),listed.size=ops.size->(∀j,j∈S↔listed.getD j false=true)->listed.countP (λb=>!b)<=fuel->closed ops S->
 uP ops (qF ops) S (Region.linearise.go .any ops fuel t listed []):=by
 intro fuel;induction fuel with
 |zero=>
  intro t listed S hsz hS hc _;simp only[Region.linearise.go,List.reverse_nil];intro i hi tQ
  exfalso
  apply tQ;rw[hS];have h0:listed.countP (λb=>!b)=0:=by omega
  rw[Array.countP_eq_zero]at h0;have hlt:i<listed.size:=by omega
  have:=h0 listed[i] (Array.getElem_mem hlt);simp[hlt];simpa using this
 |succ fuel ih=>
  intro t listed S hsz hS hc hcl;simp only[Region.linearise.go];have hrd:∀i,i∈Region.ready .any ops listed↔i<ops.size/\i∉S/\∀j,direct ops i j->j∈S:=by
   intro i;rw[mem_ready];constructor
   ·rintro⟨h1,o,ho,h2⟩;have hlt:i<ops.size:=(LP.1 ho).1;refine⟨hlt,λtQ=>?_,?_⟩
    ·rw[hS]at tQ;have hl:i<listed.size:=by omega
     simp[hl]at h1 tQ;rw[h1]at tQ;cases tQ
    ·rintro j ⟨o',ho',e,he,hb,rfl⟩;rw[ho]at ho';cases ho';rw[hS];exact h2 e (by simpa using he) hb
   ·rintro⟨h1,h2,h3⟩;refine⟨?_,ops[i],by simp[h1],λe he hb=>?_⟩
    ·rw[hS]at h2;have hl:i<listed.size:=by omega
     simp[hl]at h2⊢;exact h2
    ·rw[<- hS];exact h3 e.on ⟨ops[i],by simp[h1],e,by simpa using he,hb,rfl⟩
  change uP ops (qF ops) S (match (Region.ready .any ops listed)[t%(Region.ready .any ops listed).length]? with
   |some i=>Region.linearise.go .any ops fuel (t/(Region.ready .any ops listed).length) (listed.setIfInBounds i true) [i]
   |none=>[].reverse)
  cases hi:(Region.ready .any ops listed)[t%(Region.ready .any ops listed).length]? with
  |none=>
   have hnil:Region.ready .any ops listed=[]:=by
    cases hr:Region.ready .any ops listed with
    |nil=>rfl
    |cons x xs=>
     rw[hr]at hi;have hlt:t%(x::xs).length<(x::xs).length:=Ag _ (by simp);simp at hi;simp at hlt;omega
   show uP ops (qF ops) S [];intro i hilt tQ;have hnr:i∉Region.ready .any ops listed:=by rw[hnil];simp
   rw[hrd]at hnr;refine Classical.byContradiction λhno=>hnr ⟨hilt,tQ,λj hj=>Decidable.byContradiction λhjS=>hno ⟨j,(Ng ops i j hilt).2 (.inl hj),hjS⟩⟩
  |some i=>
   simp only;rw[linearise_go_acc,List.reverse_singleton,List.singleton_append];obtain⟨h1,h2,h3⟩:=(hrd i).1 (aR hi);have hpre:=Tu hcl h1 h3;have hl:i<listed.size:=by omega
   refine⟨h1,h2,hpre,ih _ _ _ (by simpa using hsz) (λj=>?_) ?_ ?_⟩
   ·rw[bN,hS];by_cases e:j=i
    ·subst e;simp[hl]
    ·simp[e,GI (Ne.symm e)]
   ·have hfalse:listed[i]=false:=by
     rw[hS]at h2;simp[hl]at h2;exact h2
    have:(listed.setIfInBounds i true).countP (λb=>!b)=listed.countP (λb=>!b) - 1:=by
     have:=Array.countP_set (p:=λb=>!b) (a:=true) hl;rw[Array.setIfInBounds,dif_pos hl,this];simp[hfalse]
    have hpos:0<listed.countP (λb=>!b):=by
     rw[Array.countP_pos_iff];exact⟨listed[i],Array.getElem_mem hl,by simp[hfalse]⟩
    omega
   ·intro k hk j hj;rcases bN.1 hk with rfl|hk
    ·exact bU _ (hpre j hj)
    ·exact bU _ (hcl k hk j hj)
theorem abR(qg:P.follows .mixedOrders=true){ds:List Tmp}{l:List bP}{a:aV}{h:IH}{K:KO}(hM:nQ P ds l a h K):lC P (.ops ds l) a h K:=by
 intro code it hcode hst β w b tm df k cs hG hW hA hcx;cases code<;>simp only[compile,reduceCtorEq]at hcode
 case rangeFunc f ps x y=>split at hcode<;>cases hcode
 case region id ops draw=>
  obtain rfl:it=.code (.region id ops draw):=hst.resolve_right (by rintro⟨_,h1,_⟩;cases h1);have hinv:∀(bK:Nat->Nat->Bool) (hv:Nat->Bool) (w':World),w'.heap=w.heap->w'.os=w.os->w'.tape=w.tape->w'.output=w.output->w.drawn<=w'.drawn->Inv P ops hv bK β h w [] [] β a h w' tm df:=λbK hv w' e1 e2 e3 e4 e5=>
   {tL:=trivial,sub:=λi hi=>by simp at hi,E5:=λi hi=>by simp at hi
    pend:=⟨λ_=>0,λi hi=>by simp at hi,λi j hi=>by simp at hi⟩
    act:=⟨hA.size,λi _=>hA.tmps i λhh=>hh,hA.out,hA.defers⟩
    wr:=hW.rQ e1,tN:=Eff.rQ hW.dom e1 e2 e3 e4 e5}
  have hdst:∀(i:Nat) o d,ops[i]? =some o->o.dst=some d->d∈dstsOf ops:=λi o d ho hd=>LM.2 ⟨o,by simpa using Array.mem_of_getElem? ho,hd⟩;unfold G9 at hcode;cases draw with
  |false=>
   simp only[uE,if_false]at hcode;split at hcode
   ·rename_i l' hl;simp only[dm.ops.injEq]at hcode;obtain⟨rfl,rfl⟩:=hcode;have hp:=abK (P:=P) ops ops.toList 0 [] l' (by simp) (by simp) hl (by simp);have hr:=abL ops.size ops rfl ops.size 0 [] (by omega) (by simp);refine .of_steps (.one aa1) (hM ops zm (λ_=>true) _ [] [] hp hdst β h w a.pm a.ro cs β w b tm df k cs (List.range ops.size) hG hW.dom hcx (hinv _ _ w rfl rfl rfl rfl (bB _)) ?_ hcx.start rfl);rw[List.range_eq_range'];exact hr
   ·cases hcode
  |true=>
   simp only[if_true]at hcode;split at hcode
   ·rename_i l' hl;simp only[dm.ops.injEq]at hcode;obtain⟨rfl,rfl⟩:=hcode;unfold R6 at hl;simp only at hl;split at hl
    ·rename_i hok;have hp:=abO (P:=P) ops _ [] l' hok hl (λk hk=>by simp at hk);refine .of_steps (.one aa2) (hM ops (qF ops) (y9 P ops) _ [] [] hp hdst β h w a.pm a.ro cs β {w with drawn:=w.drawn+1} b tm df k cs _ hG hW.dom hcx (hinv _ _ {w with drawn:=w.drawn+1} rfl rfl rfl rfl (BV _)) ?_ hcx.start rfl);simp only[Region.schedule,qg,Bool.true_or,if_true,Region.linearise];refine abP ops _ _ _ [] (by simp) (λj=>?_) ?_ (λk hk=>by simp at hk)
     ·simp only[LK,false_iff];intro hc;by_cases hj:j<ops.size
      ·simp[hj]at hc
      ·simp[hj]at hc
     ·simpa using Array.countP_le_size (xs:=Array.replicate ops.size false) (p:=λb=>!b)
    ·cases hl
   ·cases hcode
end Go.Ideal
namespace Go.Ideal
variable {P:Program}
theorem M9.code{code:Code}{it:Item}(h:M9 code it)(hn:∀body,code≠.loop body):it=.code code:=h.resolve_right (by rintro⟨b,h1,_⟩;exact hn b h1)
theorem xI{ops:Array Oper}{draw:Bool}{c:dm}(h:G9 P ops draw=c):(∃ds l,c=.ops ds l)\/c=.fail:=by
 unfold G9 at h;split at h
 ·exact .inl ⟨_,_,h.symm⟩
 ·exact .inr h.symm
theorem Post.after{β0:aG}{h0:IH}{w0:World}{jM:Option FrameMode}{jw:Option Nat}{b:Frame}{cs0 cs1:List Frame}{k:List Item}{K:KO}{M:Machine}{β1:aG}{h1:IH}{w1:World}{Tw:Option FrameMode}
 (he:Eff β0 h0 w0 β1 h1 w1) (hc:nP β1 jM Tw cs0 cs1) (hp:Post P β1 h1 w1 Tw jw b cs1 k K M):Post P β0 h0 w0 jM jw b cs0 k K M:=by
 obtain⟨o,a',h',β',w',tm',gy,cs',q1,q2,q3,q4,q5,q6,q7⟩:=hp;exact⟨o,a',h',β',w',tm',gy,cs',q1,q2,he.trans q3,q4,hc.trans q5,q6,q7⟩
section
variable {a:aV} {h:IH} {K:KO}
theorem abS(hk:K .normal a h):lC P .skip a h K:=by
 intro code it hcode hst β w b tm df k cs hG hW hA hcx;cases code<;>simp only[compile,reduceCtorEq]at hcode
 case skip=>
  obtain rfl:=hst.code (by simp);exact⟨.normal,a,h,β,w,tm,df,cs,hk,hW,Eff.refl _ _ _ hW.dom,hA,hcx.start,rfl,.one aaR⟩
 case label l=>
  obtain rfl:=hst.code (by simp);exact⟨.normal,a,h,β,w,tm,df,cs,hk,hW,Eff.refl _ _ _ hW.dom,hA,hcx.start,rfl,.one aaS⟩
 case region id ops draw=>rcases xI hcode with⟨_,_,h1⟩|h1<;>cases h1
 case rangeFunc f ps x y=>split at hcode<;>cases hcode
theorem abT{x y:dm}(M:KO)(h1:lC P x a h M)(h2:∀a' h',M .normal a' h'->lC P y a' h' K)(h3:∀o a' h',M o a' h'->o≠.normal->K o a' h'):lC P (.seq x y) a h K:=by
 intro code it hcode hst β w b tm df k cs hG hW hA hcx;cases code<;>simp only[compile,reduceCtorEq]at hcode
 case region id ops draw=>rcases xI hcode with⟨_,_,h1⟩|h1<;>cases h1
 case rangeFunc f ps x y=>split at hcode<;>cases hcode
 case seq cx cy=>
  simp only[dm.seq.injEq]at hcode;obtain⟨Fh,hcy⟩:=hcode;obtain rfl:=hst.code (by simp);obtain⟨o,a',h',β',w',tm',gy,cs',q1,q2,q3,q4,q5,q6,q7⟩:=h1 cx _ Fh (.inl rfl) β w b tm df (.code cy::k) cs hG hW hA hcx;have hle:=q3.le hW.dom;cases o with
  |normal=>
   have:=h2 a' h' q1 cy _ hcy (.inl rfl) β' w' b tm' gy k cs' (hG.le hle) q2 q4 (by rw[q6];exact hcx.after hle q5);rw[q6]at this;exact .of_steps ((Steps.one HY).trans q7) (this.after q3 q5)
  |exit id=>
   obtain⟨todo,e1,e2⟩:=q7;exact⟨_,a',h',β',w',tm',gy,cs',h3 _ _ _ q1 (by simp),q2,q3,q4,q5,q6,todo,e1.trans (by simp[exitTo]),(Steps.one HY).trans e2⟩
  |ret=>
   obtain⟨todo,e2⟩:=q7;exact⟨_,a',h',β',w',tm',gy,cs',h3 _ _ _ q1 (by simp),q2,q3,q4,q5,q6,todo,(Steps.one HY).trans e2⟩
  |panic ch=>
   obtain⟨todo,ch',e1,e2⟩:=q7;exact⟨_,a',h',β',w',tm',gy,cs',h3 _ _ _ q1 (by simp),q2,q3,q4,q5,q6,todo,ch',e1,(Steps.one HY).trans e2⟩
theorem abU{β:aG}{tm:Array Value}{df:List Deferred}(hA:AR β none' a tm df){c:Operand}{t:Bool}(hc:a.eval c=.bool t):Act.eval ⟨tm,df⟩ c=.bool t:=by
 cases c with
 |tmp i=>
  have:=hA.tmps i (λhh=>hh);have hc':dL a.tmps i=.bool t:=hc;rw[hc']at this;exact this.Ht
 |const v=>exact hc
 |global g=>cases hc
 |func f=>cases hc
theorem Tx{c:Operand}{x y:dm}{t:Bool}(hc:a.eval c=.bool t)(h1:lC P (if t then x else y) a h K):lC P (.cond c x y) a h K:=by
 intro code it hcode hst β w b tm df k cs hG hW hA hcx;cases code<;>simp only[compile,reduceCtorEq]at hcode
 case region id ops draw=>rcases xI hcode with⟨_,_,h1⟩|h1<;>cases h1
 case rangeFunc f ps x y=>split at hcode<;>cases hcode
 case cond c' cx cy=>
  simp only[dm.cond.injEq]at hcode;obtain⟨rfl,Fh,hcy⟩:=hcode;obtain rfl:=hst.code (by simp);refine .of_steps (.one (aaX (abU hA hc))) (h1 (if t then cx else cy) _ ?_ (.inl rfl) β w b tm df k cs hG hW hA hcx);cases t
  ·exact hcy
  ·exact Fh
theorem abV{id:Nat}{c:dm}(M:KO)(h1:lC P c a h M)(h2:∀o a' h',M o a' h'->K (inBlock id o) a' h'):lC P (.block id c) a h K:=by
 intro code it hcode hst β w b tm df k cs hG hW hA hcx;cases code<;>simp only[compile,reduceCtorEq]at hcode
 case region id ops draw=>rcases xI hcode with⟨_,_,h1⟩|h1<;>cases h1
 case rangeFunc f ps x y=>split at hcode<;>cases hcode
 case block id' cx=>
  simp only[dm.block.injEq]at hcode;obtain⟨rfl,Fh⟩:=hcode;obtain rfl:=hst.code (by simp);obtain⟨o,a',h',β',w',tm',gy,cs',q1,q2,q3,q4,q5,q6,q7⟩:=h1 cx _ Fh (.inl rfl) β w b tm df (.inBlock id'::k) cs hG hW hA hcx;have hk:=h2 o a' h' q1;cases o with
  |normal=>exact⟨.normal,a',h',β',w',tm',gy,cs',hk,q2,q3,q4,q5,q6,((Steps.one EX).trans q7).trans (.one aaT)⟩
  |exit j=>
   obtain⟨todo,e1,e2⟩:=q7;cases hb:Nat.beq j id' with
   |true=>
    have hj:j=id':=qC hb;subst hj;have hk':K .normal a' h':=by
     have:inBlock j (.exit j)=.normal:=by simp only[inBlock,hb,cond_true]
     rw[this]at hk;exact hk
    have he:exitTo j todo=some k:=by rw[e1];simp[exitTo]
    exact⟨.normal,a',h',β',w',tm',gy,cs',hk',q2,q3,q4,q5,q6,((Steps.one EX).trans e2).trans (.one (aaY he))⟩
   |false=>
    have hj:j≠id':=Ej hb;have hk':K (.exit j) a' h':=by
     have:inBlock id' (.exit j)=.exit j:=by simp only[inBlock,hb,cond_false]
     rw[this]at hk;exact hk
    exact⟨.exit j,a',h',β',w',tm',gy,cs',hk',q2,q3,q4,q5,q6,todo,e1.trans (by simp[exitTo,Ne.symm hj]),(Steps.one EX).trans e2⟩
  |ret=>
   obtain⟨todo,e2⟩:=q7;exact⟨.ret,a',h',β',w',tm',gy,cs',hk,q2,q3,q4,q5,q6,todo,(Steps.one EX).trans e2⟩
  |panic ch=>
   obtain⟨todo,ch',e1,e2⟩:=q7;exact⟨.panic ch,a',h',β',w',tm',gy,cs',hk,q2,q3,q4,q5,q6,todo,ch',e1,(Steps.one EX).trans e2⟩
theorem abW{c:dm}(M:KO)(h1:lC P c a h M)(h2:∀a' h',M .normal a' h'->lC P (.loop c) a' h' K)(h3:∀o a' h',M o a' h'->o≠.normal->K o a' h'):lC P (.loop c) a h K:=by
 intro code it hcode hst β w b tm df k cs hG hW hA hcx;cases code<;>simp only[compile,reduceCtorEq]at hcode
 case region id ops draw=>rcases xI hcode with⟨_,_,h1⟩|h1<;>cases h1
 case rangeFunc f ps x y=>split at hcode<;>cases hcode
 case loop cx=>
  simp only[dm.loop.injEq]at hcode;have hstep:step P (lone (fr b tm df (it::k)) cs w)=.next (lone (fr b tm df (.code cx::.inLoop cx::k)) cs w):=by
   rcases hst with rfl|⟨body,hb,rfl⟩
   ·exact aaV
   ·simp only[Code.loop.injEq]at hb;subst hb;exact aaW
  obtain⟨o,a',h',β',w',tm',gy,cs',q1,q2,q3,q4,q5,q6,q7⟩:=h1 cx _ hcode (.inl rfl) β w b tm df (.inLoop cx::k) cs hG hW hA hcx;have hle:=q3.le hW.dom;cases o with
  |normal=>
   have:=h2 a' h' q1 (.loop cx) (.inLoop cx) (by simp[compile,hcode]) (.inr ⟨cx,rfl,rfl⟩) β' w' b tm' gy k cs' (hG.le hle) q2 q4 (by rw[q6];exact hcx.after hle q5);rw[q6]at this;exact .of_steps ((Steps.one hstep).trans q7) (this.after q3 q5)
  |exit id=>
   obtain⟨todo,e1,e2⟩:=q7;exact⟨_,a',h',β',w',tm',gy,cs',h3 _ _ _ q1 (by simp),q2,q3,q4,q5,q6,todo,e1.trans (by simp[exitTo]),(Steps.one hstep).trans e2⟩
  |ret=>
   obtain⟨todo,e2⟩:=q7;exact⟨_,a',h',β',w',tm',gy,cs',h3 _ _ _ q1 (by simp),q2,q3,q4,q5,q6,todo,(Steps.one hstep).trans e2⟩
  |panic ch=>
   obtain⟨todo,ch',e1,e2⟩:=q7;exact⟨_,a',h',β',w',tm',gy,cs',h3 _ _ _ q1 (by simp),q2,q3,q4,q5,q6,todo,ch',e1,(Steps.one hstep).trans e2⟩
theorem abX{c:dm}(h1:lC P c a h K):lC P (.scope c) a h K:=by
 intro code it hcode hst β w b tm df k cs hG hW hA hcx;cases code<;>simp only[compile,reduceCtorEq]at hcode
 case region id ops draw=>rcases xI hcode with⟨_,_,h1⟩|h1<;>cases h1
 case rangeFunc f ps x y=>split at hcode<;>cases hcode
 case scope cx=>
  simp only[dm.scope.injEq]at hcode;obtain rfl:=hst.code (by simp);obtain⟨o,a',h',β',w',tm',gy,cs',q1,q2,q3,q4,q5,q6,q7⟩:=h1 cx _ hcode (.inl rfl) β w b tm df (.inScope cx::k) cs hG hW hA hcx;cases o with
  |normal=>exact⟨_,a',h',β',w',tm',gy,cs',q1,q2,q3,q4,q5,q6,((Steps.one HZ).trans q7).trans (.one aaU)⟩
  |exit id=>
   obtain⟨todo,e1,e2⟩:=q7;exact⟨_,a',h',β',w',tm',gy,cs',q1,q2,q3,q4,q5,q6,todo,e1.trans (by simp[exitTo]),(Steps.one HZ).trans e2⟩
  |ret=>
   obtain⟨todo,e2⟩:=q7;exact⟨_,a',h',β',w',tm',gy,cs',q1,q2,q3,q4,q5,q6,todo,(Steps.one HZ).trans e2⟩
  |panic ch=>
   obtain⟨todo,ch',e1,e2⟩:=q7;exact⟨_,a',h',β',w',tm',gy,cs',q1,q2,q3,q4,q5,q6,todo,ch',e1,(Steps.one HZ).trans e2⟩
theorem abY{id:Nat}(hk:K (.exit id) a h):lC P (.exit id) a h K:=by
 intro code it hcode hst β w b tm df k cs hG hW hA hcx;cases code<;>simp only[compile,reduceCtorEq]at hcode
 case region id ops draw=>rcases xI hcode with⟨_,_,h1⟩|h1<;>cases h1
 case rangeFunc f ps x y=>split at hcode<;>cases hcode
 case exit j=>
  simp only[dm.exit.injEq]at hcode;subst hcode;obtain rfl:=hst.code (by simp);exact⟨_,a,h,β,w,tm,df,cs,hk,hW,Eff.refl _ _ _ hW.dom,hA,hcx.start,rfl,k,rfl,Steps.refl P _⟩
theorem abZ(hk:K .ret a h):lC P .ret a h K:=by
 intro code it hcode hst β w b tm df k cs hG hW hA hcx;cases code<;>simp only[compile,reduceCtorEq]at hcode
 case region id ops draw=>rcases xI hcode with⟨_,_,h1⟩|h1<;>cases h1
 case rangeFunc f ps x y=>split at hcode<;>cases hcode
 case ret=>
  obtain rfl:=hst.code (by simp);exact⟨_,a,h,β,w,tm,df,cs,hk,hW,Eff.refl _ _ _ hW.dom,hA,hcx.start,rfl,k,Steps.refl P _⟩
theorem ab0{c:dm}(a0:aV)(hw:∀i,dL a0.tmps i=dO\/dL a0.tmps i=dL a.tmps i)(hn:a0.n=a.n/\a0.defers=a.defers/\a0.pm=a.pm/\a0.ro=a.ro)(h1:lC P c a0 h K):lC P c a h K:=by
 intro code it hcode hst β w b tm df k cs hG hW hA hcx;obtain⟨n1,n2,n3,n4⟩:=hn;have AZ:AR β none' a0 tm df:=⟨by rw[n1];exact hA.size,λi hi=>by
  rcases hw i with e|e
  ·rw[e];exact .dO _
  ·rw[e];exact hA.tmps i hi,λi hi=>by
  rw[n1]at hi;rcases hw i with e|e
  ·exact e
  ·rw[e];exact hA.out i hi,by rw[n2];exact hA.defers⟩
 have:=h1 code it hcode hst β w b tm df k cs hG hW AZ (by rw[n3,n4];exact hcx);rw[n3,n4]at this;exact this
end
end Go.Ideal
namespace Go.Ideal
variable {P:Program}
theorem ab1(ts:T Value)(h:IH)(r:qG)(l:List qG):xu ts h (r::l)=match sZ ts h r,xu ts h l with
 |some v,some vs=>some (v::vs)
 |_,_=>none:=rfl
def CL(tm:Array Value):ResultVar->Sem Value
 | .tmp t=>pure (tm.getD t undef)
 | .cell a t=>do loadVar t (<- asAddr (tm.getD a undef))
theorem ab2(fn:Func)(tm:Array Value):results fn tm=(do
 let vs <- fn.results.mapM (CL tm)
 pure (if h:vs.size=1 then vs[0]else .tuple vs)):=by
 have:(λ(r:ResultVar)=>match r with
  | .tmp t=>(pure (tm.getD t undef):Sem Value)
  | .cell a t=>do loadVar t (<- asAddr (tm.getD a undef)))=CL tm:=by
  funext r;cases r<;>rfl
 rw[<- this];rfl
theorem ab3{β:aG}{h:IH}{w:World}{ts:T Value}{tm:Array Value}(hW:WR P β h w)(ht:∀i,VR β (dL ts i) (tm.getD i undef)){r:ResultVar}{c:qG}(hc:EB P r=some c){v:Value}(hv:sZ ts h c=some v):
 ∃v',(CL tm r).run P w=.ok v' w/\VR β v v':=by
 cases r with
 |tmp t=>
  simp only[EB,aH]at hc;subst hc;simp only[sZ,aH]at hv;subst hv;exact⟨_,rfl,ht t⟩
 |cell a t=>
  simp only[EB]at hc;split at hc
  ·rename_i hagg;cases hs:jC P t with
   |none=>simp[hs]at hc
   |some n=>
    simp only[hs,jZ,aH]at hc;subst hc;simp only[sZ]at hv;split at hv
    ·rename_i i o ha;have hx:=ht a;rw[ha]at hx;obtain⟨g,hg,hx'⟩:=hx.uN;split at hv
     ·rename_i cs hcs;simp only[aH]at hv;subst hv;obtain⟨blk,hb,hl⟩:=Sj hcs;obtain⟨l1,l2,l',l3,l4⟩:=Ho hW hg (.inl hb) hl;obtain⟨d,hd⟩:=Si hagg;refine⟨.agg ⟨l'⟩,?_,.agg l2 l3⟩;have:=Mo (P:=P) (n:=n) (by rw[l3.length,l1]) l4;simp only[CL,dG,hx',asAddr,fo,dI,loadVar,Cy hd,hagg,mO hs,this,if_true]
     ·cases hv
    ·cases hv
  ·rename_i hagg;split at hc
   ·rename_i d hd;simp only[aH]at hc;subst hc;simp only[sZ]at hv;split at hv
    ·rename_i i o ha;have hx:=ht a;rw[ha]at hx;obtain⟨g,hg,hx'⟩:=hx.uN;split at hv
     ·rename_i cs hcs;obtain⟨_,_,_,_,_,h7⟩:=hW.obj i g _ hg hcs;rw[qK]at hv;obtain⟨v',q1,q2⟩:=h7 _ _ hv;have Mw:jD P t=false:=by simpa using hagg
      refine⟨v',?_,q2⟩;simp only[CL,dG,hx',asAddr,fo,dI,loadVar,Cy hd,Mw,uE,if_false];simp[q1]
     ·cases hv
    ·cases hv
   ·cases hc
theorem ab4{β:aG}{h:IH}{w:World}{ts:T Value}{tm:Array Value}(hW:WR P β h w)(ht:∀i,VR β (dL ts i) (tm.getD i undef)):∀(rs:List ResultVar) (cs:List qG) (vs:List Value),rs.mapM (EB P)=some cs->xu ts h cs=some vs->
 ∃vs',(rs.mapM (CL tm)).run P w=.ok vs' w/\aS β vs vs':=by
 intro rs;induction rs with
 |nil=>
  intro cs vs hc hv;simp only[List.mapM_nil,Option.pure_def,aH]at hc;subst hc;change some []=some vs at hv
  simp only[aH]at hv;subst hv;exact⟨[],rfl,.nil⟩
 |cons r rs ih=>
  intro cs vs hc hv;obtain⟨c,cs',h1,h2,rfl⟩:=Tq hc;rw[ab1]at hv;split at hv
  ·rename_i v vs1 hv1 ab5;simp only[aH]at hv;subst hv;obtain⟨v',q1,q2⟩:=ab3 hW ht h1 hv1;obtain⟨vs',q3,q4⟩:=ih cs' vs1 h2 ab5;refine⟨v'::vs',?_,.cons q2 q4⟩;simp only[List.mapM_cons,dG,q1,dI,q3,fo]
  ·cases hv
theorem ab6{β:aG}{h:IH}{w:World}{ts:T Value}{tm:Array Value}(hW:WR P β h w)(ht:∀i,VR β (dL ts i) (tm.getD i undef)){fn:Func}{cf:gU}(hc:uK P fn=some cf){v:Value}(hv:qH cf.results ts h=some v):
 ∃v',(results fn tm).run P w=.ok v' w/\VR β v v':=by
 unfold uK at hc;split at hc
 ·rename_i body rs hb hrs;split at hc
  ·cases hc
  simp only[aH]at hc;subst hc;have key:∀vs,xu ts h rs=some vs->∃vs',aS β vs vs'/\(results fn tm).run P w=.ok (if hh:(⟨vs'⟩:Array Value).size=1 then(⟨vs'⟩:Array Value)[0]else .tuple ⟨vs'⟩) w:=λvs hvs=>by
   obtain⟨vs',q1,q2⟩:=ab4 hW ht fn.results.toList rs vs hrs hvs;refine⟨vs',q2,?_⟩;rw[ab2,Array.mapM_eq_mapM_toList];simp only[map_eq_pure_bind,bind_assoc,pure_bind,dG];rw[q1];simp only[dI,fo]
  unfold qH at hv;split at hv
  ·rename_i v1 hvs;simp only[aH]at hv;subst hv;obtain⟨vs',q1,q2⟩:=key _ hvs;cases q1 with
   |cons h1 h2=>
    cases h2;exact⟨_,q2,h1⟩
  ·rename_i vs hnot hvs;simp only[aH]at hv;subst hv;obtain⟨vs',q1,q2⟩:=key _ hvs;refine⟨_,q2,?_⟩;have hne:¬(⟨vs'⟩:Array Value).size=1:=by
    intro h1;have hl:vs.length=1:=by rw[<- q1.length];exact h1
    match vs,hl with
    |[x],_=>exact hnot x rfl
   rw[dif_neg hne];exact .tuple q1
  ·cases hv
 ·cases hc
section
variable {cf:gU} {ts:T Value} {h:IH} {K:iO->IH->Prop}
theorem ab7(v:Value)(hv:qH cf.results ts h=some v)(hk:K (.ok v) h):xE P cf ts [] .returning h K:=by
 intro β w F cs fn hG hW hm hd ht hf hc;obtain⟨v',q1,q2⟩:=ab6 hW ht hc hv;have hmode:F.mode=.returning:=by generalize F.mode=m at hm;cases hm;rfl
 have hdef:F.defers=[]:=by generalize F.defers=d at hd;cases hd;rfl
 exact⟨.ok v,h,β,w,F,.returned v',hk,hW,Eff.refl _ _ _ hW.dom,.ok q2,Steps.refl P _,rfl,rfl,hmode,hdef,fn,hf,q1⟩
theorem ab8(ch:List PanicEntry)(hk:K (.fT ch) h):xE P cf ts [] (.panicking ch) h K:=by
 intro β w F cs fn hG hW hm hd ht hf hc;have hdef:F.defers=[]:=by generalize F.defers=d at hd;cases hd;rfl
 cases hmo:F.mode with
 |run=>rw[hmo]at hm;cases hm
 |returning=>rw[hmo]at hm;cases hm
 |panicking ch'=>
  rw[hmo]at hm;cases hm with
  |panicking hp=>exact⟨.fT ch,h,β,w,F,.panicked ch',hk,hW,Eff.refl _ _ _ hW.dom,.fT hp,Steps.refl P _,rfl,rfl,hmo,hdef,fn,hf⟩
theorem MR.Ty{β:aG}{m m':FrameMode}(h:MR β m m')(hm:m≠.run):m'≠.run:=by
 cases h<;>simp at hm⊢
theorem ab9{args:Array Value}{ds:List Deferred}{m:FrameMode}(hm:m≠.run)(r:Nat)(hr:h.get r=some (.gT true))(h1:xE P cf ts ds m (h.set r (.gT false)) K):
 xE P cf ts ({target:=.collected r,args}::ds) m h K:=by
 intro β w F cs fn hG hW hmr hd ht hf hc;generalize hdd:F.defers=d at hd;cases hd with
 | @coll _ g _ a' _ ds' hb hl=>
   have ho:=hW.obj r g _ hb hr;have ho:w.heap[g.b]? =some (.deferred (some [])):=ho;have hlt:g.b<w.heap.size:=by
    rcases rD g.b w.heap.size with hh|hh
    ·exact hh
    ·rw[sM hh]at ho;cases ho
   obtain⟨z1,z2,z3⟩:=EU (w:=w) (o:=.deferred none) hlt;obtain⟨y1,y2⟩:=hW.write hb hr (.gT false) z1 z2 rfl rfl rfl (bB _) z3;have hrun:=MR.Ty hmr hm;have hstep:step P (lone F cs w)=.next (lone {F with defers:=ds'} cs (w.putObj g.b (.deferred none))):=by
    refine step_lone_go ?_;have ht:=run_takeDeferred (P:=P) ho;cases hmo:F.mode with
    |run=>exact absurd hmo hrun
    |returning=>simp[stepG,unwind,hmo,hdd,ht]
    |panicking ch=>simp[stepG,unwind,hmo,hdd,ht]
   obtain⟨rr,h',β',w',F1,r',q1,q2,q3,q4,q5,q6,q7,q8⟩:=h1 β (w.putObj g.b (.deferred none)) {F with defers:=ds'} cs fn hG y1 hmr hl ht hf hc;exact⟨rr,h',β',w',F1,r',q1,q2,y2.trans q3,q4,.head hstep q5,q6,q7,q8⟩
end
end Go.Ideal
namespace Go.Ideal
variable {P:Program}
theorem oz.dropWhile{β:aG}{l l':List PanicEntry}(h:oz β l l'):oz β (l.dropWhile (!·.goexit)) (l'.dropWhile (!·.goexit)):=by
 induction h with
 |nil=>exact .nil
 | @cons e e' l l' hv hr hg hl ih=>
   simp only[List.dropWhile_cons,hg];cases e.goexit with
   |true=>exact .cons hv hr hg hl
   |false=>exact ih
theorem acd{β:aG}{m mr:FrameMode}(h:MR β m mr):MR β (za m) (settle mr):=by
 cases h with
 |run=>exact .run
 |returning=>exact .returning
 |panicking hp=>
  cases hp with
  |nil=>exact .panicking .nil
  | @cons e e' l l' hv hr hg hl=>
    obtain⟨ev,er,eg⟩:=e';simp only at hv hr hg;cases her:e.recovered with
    |false=>
     rw[her]at hr;subst hr;simp only[za,her,cond_false,settle];exact .panicking (.cons hv her.symm hg hl)
    |true=>
     rw[her]at hr;subst hr;simp only[za,her,cond_true,settle];have hd:=hl.dropWhile;generalize l.dropWhile (!·.goexit)=x at hd;generalize l'.dropWhile (!·.goexit)=y at hd;cases hd with
     |nil=>exact .returning
     |cons a b c d=>exact .panicking (.cons a b c d)
theorem ace{β:aG}{m mr:FrameMode}(h:MR β m mr){ch ch':List PanicEntry}(hc:oz β ch ch'):MR β (Co m ch) (raised mr ch'):=by
 cases h with
 |run=>exact .panicking hc
 |returning=>exact .panicking hc
 |panicking hp=>exact .panicking (hc.append hp)
theorem Tz{β β':aG}(hle:β.le β'){ts:T Value}{tm:Array Value}(h:∀i,VR β (dL ts i) (tm.getD i undef)):∀i,VR β' (dL ts i) (tm.getD i undef):=λi=>(h i).mono hle
theorem acf{cf:gU}{ts:T Value}{h:IH}{K:iO->IH->Prop}{fn:Fn}{captured args:List Value}{ds:List Deferred}{m:FrameMode}(hm:m≠.run)(M:KR)(hc:lU P ⟨fn,args,captured,some m⟩ h M)
 (hpm:∀r pm h',M r pm h'->pm≠none) (hok:∀v m' h',M (.ok v) (some m') h'->xE P cf ts ds (za m') h' K) (iC:∀ch m' h',M (.fT ch) (some m') h'->xE P cf ts ds (Co m' ch) h' K):
 xE P cf ts ({target:=.fn fn ⟨captured⟩,args:=⟨args⟩}::ds) m h K:=by
 intro β w F cs TA hG hW hmr hd ht hf hcf;generalize hdd:F.defers=d at hd;cases hd with
 | @fn _ fn' _ c' _ a' _ ds' h1 h2 h3 hl=>
   obtain⟨nx,F0,n1,n2,n3⟩:=hc β w fn' a' c' hG hW h1 h3 h2;obtain⟨r,pm',h',β',w',r',cs1,q1,q2,q3,q4,q5,q6⟩:=n3 ({F with defers:=ds'}::cs) (λm0 hm0=>by simp only[aH]at hm0;subst hm0;exact⟨_,cs,rfl,hmr⟩);cases q5 with
   |some _ m' _ _ mr TB=>
   rcases q6 with⟨f,args',F1,e1,e2,e3,e4,e5⟩|⟨e1,_⟩
   ·subst e1;simp only[entry,aH]at n2;subst n2;have hrun:=MR.Ty hmr hm;have hle:=q3.le hW.dom;have s1:=step_defer (cs:=cs) hrun hdd rfl n1;have hk:F1.kind=.deferred:=e4;cases q4 with
    | @ok v v' hv=>
      have s2:=step_going_returned (c:={{F with defers:=ds'}with mode:=mr}) (cs:=cs) hk e5;obtain⟨rr,h2',β2,w2,F2,r2,p1,p2,p3,p4,p5,p6,p7,p8⟩:=hok v m' h' q1 β' w' {{F with defers:=ds'}with mode:=settle mr} cs TA (hG.le hle) q2 (acd TB) (hl.mono hle) (Tz hle ht) hf hcf;exact⟨rr,h2',β2,w2,F2,r2,p1,p2,q3.trans p3,p4,(Steps.head s1 (e2.trans (.one s2))).trans p5,p6,p7,p8⟩
    | @fT ch ch' hch=>
      have s2:=step_going_panicked (c:={{F with defers:=ds'}with mode:=mr}) (cs:=cs) e5;obtain⟨rr,h2',β2,w2,F2,r2,p1,p2,p3,p4,p5,p6,p7,p8⟩:=iC ch m' h' q1 β' w' {{F with defers:=ds'}with mode:=raised mr ch'} cs TA (hG.le hle) q2 (ace TB hch) (hl.mono hle) (Tz hle ht) hf hcf;exact⟨rr,h2',β2,w2,F2,r2,p1,p2,q3.trans p3,p4,(Steps.head s1 (e2.trans (.one s2))).trans p5,p6,p7,p8⟩
   ·cases e1.1
theorem Ic{q:gK}{h:IH}{K:KR}(M:KR)(hc:lU P q h M)(hk:∀r pm h',M r pm h'->K r pm h'):lU P q h K:=by
 intro β w fn' args' cap' hG hW hf ha hcap;obtain⟨nx,F0,n1,n2,n3⟩:=hc β w fn' args' cap' hG hW hf ha hcap;refine⟨nx,F0,n1,n2,λcs0 hcs=>?_⟩;obtain⟨r,pm',h',β',w',r',cs1,q1,q2,q3,q4,q5,q6⟩:=n3 cs0 hcs;exact⟨r,pm',h',β',w',r',cs1,hk _ _ _ q1,q2,q3,q4,q5,q6⟩
theorem Ie{t:TypeId}{v:Value}{name:String}{f:FuncId}{r:Value}(h:Cq P t v name=some (f,r)):r=v/\∀(n:Nat) (v':Value) (w:World),(method (n+1) t v' name).run P w=.ok (f,v') w:=by
 unfold Cq at h;split at h
 ·cases h
 ·rename_i info hi;split at h
  ·cases h
  ·rename_i m hm;split at h
   ·cases h
   ·rename_i hp;have hp0:m.path= #[]:=Zu (by simpa using hp);split at h
    ·rename_i f0 ptr hfn;have TC:∀(v':Value) (w:World),(follow m.path.toList t (.val v')).run P w=.ok (t,.val v') w:=λv' w=>by rw[hp0];rfl
     split at h
     ·rename_i e hu;simp only[aH,dA]at h;obtain⟨rfl,rfl⟩:=h;refine⟨rfl,λn v' w=>?_⟩;simp only[method,dG,EJ hi,dI,hm,TC,hfn,receiverAt,fJ hu,Place.get,fo]
     ·cases h
     ·rename_i d hnp hu;simp only[aH,dA]at h;obtain⟨rfl,rfl⟩:=h;refine⟨rfl,λn v' w=>?_⟩;simp only[method,dG,EJ hi,dI,hm,TC,hfn,receiverAt,fJ hu];cases d<;>first|rfl|exact absurd rfl (hnp _)
     ·cases h
    ·cases h
theorem Ig{q:gK}{f:FuncId}{args:List Value}(ht:target P q=some (f,args)){β:aG}{fn':Fn}{args' cap':List Value}(hf:FR β q.fn fn')(ha:aS β q.args args')(hc:aS β q.captured cap'){fn:Func}(hfn:P.funcs[f]? =some fn){body:Code}(hb:fn.body=some body)
 (hname:fn.name≠ "runtime.NumGoroutine") (w:World):∃jN,(invoke (.fn fn' ⟨cap'⟩) ⟨args'⟩).run P w=.ok (.enter f ⟨jN⟩) w/\aS β args jN:=by
 have hcall:∀(xs:Array Value),(callFunc f xs).run P w=.ok (.enter f xs) w:=λxs=>by
  have hn:(fn.name== "runtime.NumGoroutine")=false:=by simpa using hname
  simp only[callFunc,dG,run_program,dI,hfn,hn,hb,Option.isNone_some,uE,if_false,fo]
 have Ni:∀(t:TypeId) (v v' r:Value) (name:String) (xs:List Value),Cq P t v name=some (f,r)->(callMethod (.iface t v') name ⟨xs⟩).run P w=.ok (.enter f ⟨v'::xs⟩) w:=λt v v' r name xs hm=>by
  obtain⟨_,h2⟩:=Ie hm;have hd:P.types.size+Made.depth=(P.types.size+(Made.depth - 1))+1:=rfl;have he:(#[v']:Array Value)++(⟨xs⟩:Array Value)=⟨v'::xs⟩:=by apply Array.ext';simp
  simp only[callMethod,dG,run_program,dI,hd,h2,he];exact hcall _
 unfold target at ht;cases Fj:q.fn with
 |func f0=>
  rw[Fj]at ht hf;simp only[aH,dA]at ht;obtain⟨rfl,rfl⟩:=ht;cases hf;refine⟨args'++cap',?_,by rw[jE];exact ha.append hc⟩;have:(⟨args'⟩:Array Value)++(⟨cap'⟩:Array Value)=⟨args'++cap'⟩:=by apply Array.ext';simp
  simp only[invoke,this];exact hcall _
 |method name=>
  rw[Fj]at ht hf;simp only at ht;cases hf;split at ht
  ·rename_i t v as Nj;split at ht
   ·rename_i f1 r hm;simp only[aH,dA]at ht;obtain⟨rfl,rfl⟩:=ht;rw[Nj]at ha;cases ha with
    | @cons _ x' _ as' hv hl=>
      obtain⟨v',hv',rfl⟩:=hv.AU;obtain⟨rfl,_⟩:=Ie hm;refine⟨v'::as',?_,.cons hv' hl⟩;have h0:(⟨Value.iface t v'::as'⟩:Array Value)[0]? =some (.iface t v'):=rfl;have h1:(⟨Value.iface t v'::as'⟩:Array Value).extract 1 (⟨Value.iface t v'::as'⟩:Array Value).size=⟨as'⟩:=by apply Array.ext';simp[Ro]
      simp only[invoke,h0,h1];exact Ni t _ v' _ name as' hm
   ·cases ht
  ·cases ht
 |methodOf t name=>
  rw[Fj]at ht hf;simp only at ht;cases hf;split at ht
  ·rename_i x as Nj;rw[Nj]at ha;cases ha with
   | @cons _ x' _ as' hv hl=>
     have h0:(⟨x'::as'⟩:Array Value)[0]? =some x':=rfl;have h1:(⟨x'::as'⟩:Array Value).extract 1 (⟨x'::as'⟩:Array Value).size=⟨as'⟩:=by apply Array.ext';simp[Ro]
     split at ht
     ·rename_i ms hu;split at ht
      ·rename_i t2 v;split at ht
       ·rename_i f1 r hm;simp only[aH,dA]at ht;obtain⟨rfl,rfl⟩:=ht;obtain⟨v',hv',rfl⟩:=hv.AU;obtain⟨rfl,_⟩:=Ie hm;refine⟨v'::as',?_,.cons hv' hl⟩;simp only[invoke,h0,h1,dG,fJ hu,dI];exact Ni t2 _ v' _ name as' hm
       ·cases ht
      ·cases ht
     ·rename_i d hni hu;split at ht
      ·rename_i f1 r hm;simp only[aH,dA]at ht;obtain⟨rfl,rfl⟩:=ht;obtain⟨rfl,_⟩:=Ie hm;refine⟨x'::as',?_,.cons hv hl⟩;simp only[invoke,h0,h1,dG,fJ hu,dI];exact Ni t _ x' _ name as' hm
      ·cases ht
     ·cases ht
  ·cases ht
 |via t p f0 b=>rw[Fj]at ht;cases ht
 |yield l=>rw[Fj]at ht;cases ht
end Go.Ideal
namespace Go.Ideal
variable {P:Program}
theorem ach(v:Value)(l:List Value)(i:Nat)(t:T Value):xq (v::l) i t=xq l (i+1) (t.set i (some v)):=rfl
theorem TD:∀(l:List Value) (i:Nat) (t:T Value) (j:Nat),dL (xq l i t) j=if i<=j/\j<i+l.length then l.getD (j - i) dO else dL t j:=by
 intro l;induction l with
 |nil=>intro i t j;rw[if_neg (by simp)];rfl
 |cons v l ih=>
  intro i t j;rw[ach,ih,Cu];by_cases h:i+1<=j/\j<i+1+l.length
  ·rw[if_pos h,if_pos (by simp;omega)];have:j - i=(j - (i+1))+1:=by omega
   rw[this];rfl
  ·rw[if_neg h];by_cases e:j=i
   ·subst e;rw[if_pos rfl,if_pos (by simp)];simp
   ·rw[if_neg e,if_neg (by simp;omega)]
theorem TE(a b:Nat):rJ a b=max a b:=by
 unfold rJ;cases hb:Nat.ble a b with
 |true=>have:=mJ hb;show b=_;omega
 |false=>
  have:¬a<=b:=λhh=>by rw[GG hh]at hb;cases hb
  show a=_;omega
theorem aci{β:aG}{n:Nat}{args jN:List Value}(h:aS β args jN)(pm:Option FrameMode):AR β none' (AA n args pm) ((⟨jN⟩:Array Value)++Array.replicate (n - jN.length) undef) []:=by
 have hlen:=h.length;refine⟨?_,λi _=>?_,λi hi=>?_,.nil⟩
 ·show _=rJ n (iG args);rw[TE,wh];simp;omega
 ·show VR β (dL (xq args 0 .leaf) i) _;rw[TD];by_cases hi:i<args.length
  ·rw[if_pos ⟨by omega,by omega⟩];obtain⟨v',h1,h2⟩:=h.get (bC hi);have e1:args.getD (i - 0) dO=args[i]:=by simp[hi]
   rw[e1,sS,Zx (by simp;omega)];have:(⟨jN⟩:Array Value)[i]? =some v':=by simpa using h1
   rw[this];exact h2
  ·rw[if_neg (by omega)];exact .dO _
 ·show dL (xq args 0 .leaf) i=dO;have:rJ n (iG args)<=i:=hi;rw[TE,wh]at this;rw[TD,if_neg (by omega)];rfl
theorem acj{q:gK}{h:IH}{K:KR}(f:FuncId)(args:List Value)(ht:target P q=some (f,args))(fn:Func)(hf:P.funcs[f]? =some fn)(cf:gU)(hcf:uK P fn=some cf)(M:KO)(h1:lC P cf.body (AA cf.ntmps args q.pm) h M)
 (h2:∀o a' h',M o a' h'->tq o≠none) (h3:∀o a' h' m,M o a' h'->tq o=some m->xE P cf a'.tmps a'.defers m h' λr h''=>K r a'.pm h''):lU P q h K:=by
 intro β w fn' args' cap' hG hW hfr ha hcap;have ack:=hcf;unfold uK at hcf;split at hcf
 ·rename_i body rs hb hrs;split at hcf
  ·cases hcf
  rename_i hname;simp only[aH]at hcf;subst hcf;obtain⟨jN,t1,t2⟩:=Ig ht hfr ha hcap hf hb hname w;refine⟨_,Frame.enter P f ⟨jN⟩ (kindOf q.pm),t1,rfl,λcs0 xJ=>?_⟩;let b:Frame:={(default:Frame)with fn:=f,kind:=kindOf q.pm}
  have hent:Frame.enter P f ⟨jN⟩ (kindOf q.pm)=fr b ((⟨jN⟩:Array Value)++Array.replicate (fn.ntmps - jN.length) undef) [] [.code body]:=by
   simp[Frame.enter,fr,hf,hb,b];rfl
  have hcx:CX P β q.pm none b cs0:=⟨⟨fn,hf⟩,.inl ⟨rfl,rfl⟩,rfl,xJ⟩
  obtain⟨o,a',h',β',w',tm',gy,cs',q1,q2,q3,q4,q5,q6,q7⟩:=h1 body _ rfl (.inl rfl) β w b _ [] [] cs0 hG hW (aci t2 q.pm) hcx;rw[<- hent]at q7;have hle:=q3.le hW.dom
  -- the frame is left
  have leave:∀(m:FrameMode) (F:Frame),tq o=some m->MR β' m F.mode->F.defers=gy->F.tmps=tm'->F.fn=f->F.kind=kindOf q.pm->Steps P (lone (Frame.enter P f ⟨jN⟩ (kindOf q.pm)) cs0 w) (lone F cs' w')->
   ∃r pm' h' β' w' r' cs1,K r pm' h'/\WR P β' h' w'/\Eff β h w β' h' w'/\RR β' r r'/\nP β' q.pm pm' cs0 cs1/\
   ((∃f1 acm F1,Next.enter f ⟨jN⟩=.enter f1 acm/\Steps P (lone (Frame.enter P f ⟨jN⟩ (kindOf q.pm)) cs0 w) (lone F1 cs1 w')/\F1.fn=f1/\F1.kind=kindOf q.pm/\F1.going P w' r')\/
    ((q.pm=none/\∃l,q.fn=.yield l)/\∀c rest,cs1=c::rest->Steps P (lone (Frame.enter P f ⟨jN⟩ (kindOf q.pm)) cs0 w) (lone (recv c r') rest w'))):=by
   intro m F hm hmr hdf htm hfn hkd hst;obtain⟨r,h2',β2,w2,F1,r',p1,p2,p3,p4,p5,p6,p7,p8⟩:=h3 o a' h' m q1 hm β' w' F cs' fn (hG.le hle) q2 hmr (by rw[hdf];exact q4.defers) (λi=>by rw[htm];exact q4.tmps i λhh=>hh) (by rw[hfn];exact hf) ack;exact⟨r,a'.pm,h2',β2,w2,r',cs',p1,p2,q3.trans p3,p4,q5.mono (p3.le q2.dom),.inl ⟨f,⟨jN⟩,F1,rfl,hst.trans p5,by rw[p7,hfn],by rw[p6,hkd],p8⟩⟩
  cases o with
  |normal=>exact leave .returning {fr b tm' gy []with mode:=.returning} rfl .returning rfl rfl rfl rfl (Steps.trans q7 (.one (aa0 rfl)))
  |exit id=>exact absurd rfl (h2 _ _ _ q1)
  |ret=>
   obtain⟨todo,e2⟩:=q7;exact leave .returning {fr b tm' gy (.code .ret::todo)with mode:=.returning} rfl .returning rfl rfl rfl rfl (Steps.trans e2 (.one (aaZ rfl)))
  |panic ch=>
   obtain⟨todo,ch',e1,e2⟩:=q7;exact leave (.panicking ch) {fr b tm' gy todo with mode:=.panicking ch'} rfl (.panicking e1) rfl rfl rfl rfl e2
 ·cases hcf
end Go.Ideal
namespace Go.Ideal
variable {P:Program}
mutual
theorem VR.restrict{β β':aG}(hle:β.le β'):∀{v v0 v':Value},VR β v v0->VR β' v v'->VR β v v'
 |_,_,_,.dO _,_=>.dO _
 |_,_,_,.skip,k=>by cases k;exact .skip
 |_,_,_,.bool _,k=>by cases k;exact .bool _
 |_,_,_,.int _ _,k=>by cases k;exact .int _ _
 |_,_,_,.float _ _,k=>by cases k;exact .float _ _
 |_,_,_,.complex _ _ _,k=>by cases k;exact .complex _ _ _
 |_,_,_,.string _,k=>by cases k;exact .string _
 |_,_,_,.nilFunc,k=>by cases k;exact .nilFunc
 |_,_,_,.nilIface,k=>by cases k;exact .nilIface
 |_,_,_,.zb,k=>by cases k;exact .zb
 |_,_,_,.ptr hi,k=>by
  obtain⟨g,h1,rfl⟩:=k.uN;rw[hle _ _ hi]at h1;cases h1;exact .ptr hi
 |_,_,_,.sl0 _ _,k=>by cases k;exact .sl0 _ _
 |_,_,_,.aB hi hb hn ha,k=>by
  obtain⟨g,a,c',q1,rfl,q3,q4,q5,q6,q7,q8⟩:=k.ni;rw[hle _ _ hi]at q1;cases q1;rcases q8 with⟨_,rfl⟩|⟨q8,r1,_,_⟩
  ·exact .aB hi q3 q5 q7
  ·simp only[aH]at q8;omega
 |_,_,_,.qb hi hb hs hn hz hl ht hc ha,k=>by
  obtain⟨g,a,c',q1,rfl,q3,q4,q5,q6,q7,q8⟩:=k.ni;rw[hle _ _ hi]at q1;cases q1;rcases q8 with⟨q8,_⟩|⟨_,_,r2,r3,r4⟩
  ·simp only[aH]at q8;omega
  ·exact .qb hi q3 r4 q5 hz r2 r3 q6 (q7.imp id (·.1))
 |_,_,_,.xz,k=>by cases k;exact .xz
 |_,_,_,.map hi,k=>by
  obtain⟨g,h1,rfl⟩:=k.CB;rw[hle _ _ hi]at h1;cases h1;exact .map hi
 |_,_,_,.func hf h1 h2,k=>by
  obtain⟨fn',f',c',k1,k2,k3,rfl⟩:=k.zg;refine .func ?_ (aS.restrict hle h1 k2) (aS.restrict hle h2 k3);cases hf with
  |func f=>cases k1;exact .func f
  |method n=>cases k1;exact .method n
  |methodOf t n=>cases k1;exact .methodOf t n
  |yield hl=>cases k1 with|yield hl'=>rw[hle _ _ hl]at hl';cases hl';exact .yield hl
 |_,_,_,.iface t hv,k=>by
  obtain⟨u',k1,rfl⟩:=k.AU;exact .iface t (VR.restrict hle hv k1)
 |_,_,_,.agg hc hl,k=>by
  obtain⟨l',k1,_,rfl⟩:=k.Mr;exact .agg hc (aS.restrict hle hl k1)
 |_,_,_,.tuple hl,k=>by
  cases k with
  |dO=>cases hl;exact .dO _
  |tuple k1=>exact .tuple (aS.restrict hle hl k1)
theorem aS.restrict{β β':aG}(hle:β.le β'):∀{v v0 v':List Value},aS β v v0->aS β' v v'->aS β v v'
 |_,_,_,.nil,k=>by cases k;exact .nil
 |_,_,_,.cons hv hl,k=>by
  cases k with
  |cons k1 k2=>exact .cons (VR.restrict hle hv k1) (aS.restrict hle hl k2)
end
theorem gp.restrict{β β':aG}(hle:β.le β'){l l0 l':List MapEntry}(h:gp β l l0)(k:gp β' l l'):gp β l l':=by
 induction h generalizing l' with
 |nil=>cases k;exact .nil
 |cons hk hf hb hv hl ih=>
  cases k with
  |cons hk' hf' hb' hv' hl'=>exact .cons hk' hf' hb' (hv.restrict hle hv') (ih hl')
theorem OR.restrict{β β':aG}(hle:β.le β'){g:iy}{w w':World}{o:dJ}(h:OR P β g w o)(k:OR P β' g w' o):OR P β g w' o:=by
 cases o with
 |cells cs=>
  obtain⟨_,_,_,_,_,a7⟩:=h;obtain⟨b1,b2,b3,b5,b6,b7⟩:=k;refine⟨b1,b2,b3,b5,b6,λj v hj=>?_⟩;obtain⟨v0,_,h0⟩:=a7 j v hj;obtain⟨v',h1,h2⟩:=b7 j v hj;exact⟨v',h1,h0.restrict hle h2⟩
 |jr cs=>
  obtain⟨_,_,_,a7⟩:=h;obtain⟨b1,b2,b6,b7⟩:=k;refine⟨b1,b2,b6,λj v hj=>?_⟩;obtain⟨v0,_,h0⟩:=a7 j v hj;obtain⟨v',h1,h2⟩:=b7 j v hj;exact⟨v',h1,h0.restrict hle h2⟩
 |map es clock=>
  obtain⟨es0,_,h0⟩:=h;obtain⟨es',h1,h2⟩:=k;exact⟨es',h1,h0.restrict hle h2⟩
 |Av s pos=>exact k
 |mapIter m since seen stepped=>
  obtain⟨m0,s0,_,_,h0,_⟩:=h;obtain⟨m',s',h1,h2,h3,h4⟩:=k;exact⟨m',s',h1,h2,h0.restrict hle h3,h4⟩
 |loop r=>
  obtain⟨r0,_,h0⟩:=h;obtain⟨r',h1,h2⟩:=k;obtain⟨g0,e1,_⟩:=h0.defers;obtain⟨g1,e2,e3⟩:=h2.defers;rw[hle _ _ e1]at e2;cases e2;exact⟨r',h1,⟨h2.state,h2.pending,h2.EI,h2.size,λi=>(h0.tmps i).restrict hle (h2.tmps i),h2.out,h2.params,h2.assign,h2.body,⟨_,e1,e3⟩,h2.Cv⟩⟩
 |gT b=>exact k
theorem WR.low{β:aG}{h:IH}{w:World}(hW:WR P β h w)(n:Nat):WR P β {h with low:=n} w:=⟨hW.dom,hW.live,hW.obj,hW.inj⟩
theorem aco{q:gK}{h:IH}{K:KR}(cs:List Value)(n f:Nat)(hcs:gX cs=true)(hne:cs≠[])(hf:f=0\/cs.length=n*f)(M:KR)(hc:lU P q {h with low:=h.next} M)(hq:q.pm=none)
 (h1:∀r pm h',M r pm h'->pm=none/\h'.low=h.next/\∃i o c,r=.ok (.slice (some ⟨i,o,some f⟩) n c)/\h.next<=i/\(f=0->c=n)/\h'.jv i o cs.length=some cs)
 (hk:K (.ok (.slice (some ⟨h.next,0,some f⟩) n n)) none (h.new (.cells cs))):lU P q h K:=by
 intro β w fn' args' cap' hG hW hfr ha hcap;obtain⟨nx,F0,n1,n2,n3⟩:=hc β w fn' args' cap' hG (hW.low _) hfr ha hcap;refine⟨nx,F0,n1,n2,λcs0 xJ=>?_⟩;obtain⟨r,pm',h',β',w',r',cs1,q1,q2,q3,q4,q5,q6⟩:=n3 cs0 xJ;obtain⟨hpm,hlow,i,o,c,rfl,hi,hfc,hcells⟩:=h1 r pm' h' q1;subst hpm;cases q4 with
 | @ok v v' hv=>
   obtain⟨g,a,c',hg,hv',ha1,ha2,hn,hcc,hoff,hkind⟩:=hv.ni;obtain⟨cells,hget,htake⟩:=Sj hcells;rw[rO,qL]at htake;split at htake
   ·rename_i hle;simp only[aH]at htake;obtain⟨o1,o2,o3,o5,o6,o7⟩:=q2.obj i g _ hg hget
    -- what the result stands for
    let g1:iy:=⟨g.b,g.off+o,cs.length,g.top,g.sz⟩
    let β2:aG:=λj=>if j<h.next then β j else if j=h.next then some g1 else none
    have hb2:∀j k,β2 j=some k->(j<h.next/\β j=some k/\β' j=some k)\/(j=h.next/\k=g1):=λj k hk=>by
     simp only[β2]at hk;split at hk
     ·rename_i hj;exact .inl ⟨hj,hk,(q3.agree j hj).trans hk⟩
     ·split at hk
      ·rename_i hj;simp only[aH]at hk;exact .inr ⟨hj,hk.symm⟩
      ·cases hk
    have hold:∀j,j<h.next->h'.get j=h.get j:=λj hj=>q3.kept j (by rw[hlow];exact hj) hj
    have hnew:∀j,(h.new (.cells cs)).get j=if j=h.next then some (.cells cs)else h.get j:=λj=>IH.jc _ _ _
    have hle2:β.le β2:=λj k hk=>by
     have:=hW.dom j k hk;simp only[β2];rw[if_pos this];exact hk
    have TF:∀(j:Nat) v,cs[j]? =some v->dF v=true:=λj v hj=>by
     have:∀(l:List Value),gX l=true->∀v∈l,dF v=true:=by
      intro l;induction l with
      |nil=>intro _ v hv;simp at hv
      |cons x l ih=>
       intro hl v hv;simp[gX]at hl;rcases bN.1 hv with rfl|hv
       ·exact hl.1.1
       ·exact ih hl.2 v hv
     exact this cs hcs v (aR hj)
    have acp:∀(j:Nat) v,cs[j]? =some v->w'.cell? ⟨g.b,g.off+o+j,none⟩=some v:=λj v hj=>by
     have hj2:cells[o+j]? =some v:=by
      rw[<- htake,uF]at hj;split at hj
      ·rw[oh]at hj;exact hj
      ·cases hj
     obtain⟨v',t1,t2⟩:=o7 (o+j) v hj2;rw[t2.qc (TF j v hj)]at t1;rw[pU];exact t1
    have hlen:o+cs.length<=cells.length:=by
     simp at hle;have h0:0<cs.length:=BZ.2 hne;omega
    have hOR:OR P β2 g1 w' (.cells cs):=⟨o1,rfl,by show g.off+o+cs.length<=g.top;omega,o5,uL hcs,λj v hj=>⟨v,acp j v hj,VR.free (TF j v hj)⟩⟩
    have hW2:WR P β2 (h.new (.cells cs)) w':=by
     refine⟨?_,?_,?_,?_⟩
     ·intro j k hk;show j<h.next+1
      rcases hb2 j k hk with⟨hj,_⟩|⟨hj,_⟩<;>omega
     ·intro j x hx;show j<h.next+1
      rw[hnew]at hx;split at hx
      ·omega
      ·have:=hW.live j x hx;omega
     ·intro j k x hk hx;rw[hnew]at hx;rcases hb2 j k hk with⟨hj,hb,hb'⟩|⟨hj,rfl⟩
      ·rw[if_neg (by omega)]at hx;have hx':h'.get j=some x:=by rw[hold j hj];exact hx
       exact((hW.obj j k x hb hx).restrict (q3.le hW.dom) (q2.obj j k x hb' hx')).mono hle2
      ·rw[if_pos hj]at hx;simp only[aH]at hx;subst hx;exact hOR
     ·intro j l k m hk hm hj hl hr he;rw[hnew]at hj hl;rcases hb2 j k hk with⟨hjn,_,hb'⟩|⟨hjn,rfl⟩
      ·rw[if_neg (by omega)]at hj;rcases hb2 l m hm with⟨hln,_,Nk⟩|⟨hln,rfl⟩
       ·rw[if_neg (by omega)]at hl;exact q2.inj j l k m hb' Nk (by rw[hold j hjn];exact hj) (by rw[hold l hln];exact hl) (hr.imp (λq cs e=>q cs (by rw[hnew,if_neg (by omega),<- hold j hjn];exact e)) (λq cs e=>q cs (by rw[hnew,if_neg (by omega),<- hold l hln];exact e))) he
       ·have:=q2.inj j i k g hb' hg (by rw[hold j hjn];exact hj) (by rw[hget];simp) (.inr (by rw[hget];intro cs e;cases e)) he;omega
      ·rcases hb2 l m hm with⟨hln,_,Nk⟩|⟨hln,rfl⟩
       ·rw[if_neg (by omega)]at hl;have:=q2.inj l i m g Nk hg (by rw[hold l hln];exact hl) (by rw[hget];simp) (.inr (by rw[hget];intro cs e;cases e)) he.symm;omega
       ·omega
    have TG:β2 h.next=some g1:=by simp only[β2];rw[if_neg (by omega)];simp
    have hE:Eff β h w β2 (h.new (.cells cs)) w':=
     {agree:=λj hj=>by simp only[β2];rw[if_pos hj]
      next:=BV _
      alive:=λj hj hn=>by rw[hnew,if_neg (by omega)]at hn;exact hn
      hid:=λj hj _=>by rw[hnew,if_neg (by omega)]
      low:=bB _
      kept:=λj _ hj=>by rw[hnew,if_neg (by omega)]
      os:=q3.os,tape:=q3.tape,output:=q3.output,drawn:=q3.drawn,size:=q3.size,keep:=q3.keep
      rP:=λj k _ hj hk hn hb=>q3.rP j k (by rw[hlow];exact hj) hj hk hn hb
      fresh:=λj k hk hj=>by
       rcases hb2 j k hk with⟨hjn,_⟩|⟨_,rfl⟩
       ·omega
       ·exact q3.fresh i g hg hi}
    have hVR:VR β2 (.slice (some ⟨h.next,0,some f⟩) n n) v':=by
     subst hv';rcases hkind with⟨e1,e2⟩|⟨e1,e2,e3,e4,e5⟩
     ·simp only[aH]at e1;have:=hfc e1;subst e1 e2 this;exact .aB TG ha1 (bB _) (by
       rcases hoff with hh|⟨hh,hs⟩
       ·exact .inl hh
       ·exact .inr ⟨by rw[hh];rfl,hs⟩)
     ·simp only[aH]at e1;subst e1;have hcl:cs.length=n*g.sz:=hf.resolve_left (by omega);exact .qb (g:=g1) TG ha1 e5 (bB _) e2 (by show 0+n*g.sz=cs.length;omega) (by show g.off+o+0+c'*g.sz=g.top;omega) (qD hn hcc) (by
       rcases hoff with hh|⟨hh,_⟩
       ·exact .inl hh
       ·exact .inr (by rw[hh];rfl))
    exact⟨_,none,_,β2,w',.returned v',cs1,hk,hW2,hE,.ok hVR,by rw[hq]at q5⊢;cases q5;exact .none _,by
     rcases q6 with h6|h6
     ·exact .inl h6
     ·exact .inr h6⟩
   ·cases htake
