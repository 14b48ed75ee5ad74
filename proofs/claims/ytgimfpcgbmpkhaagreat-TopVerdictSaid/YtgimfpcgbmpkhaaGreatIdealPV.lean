/- Part. -/
import Derived.Test.YtgimfpcgbmpkhaaGreatIdealNV
import Derived.Lib.Bytealg
import Derived.Lib.Atoi
import Derived.Lib.ConvBytes
import Derived.Shelf.SlSortCmp.WholeK
import Derived.Shelf.SlSortCmp.Whole1
import Derived.Sort.EncStr
set_option linter.all false
namespace Go.Ideal
structure Beyond(w w':World):Prop where
 heap:∀b,b<w.heap.size->w'.heap[b]? =w.heap[b]?
 size:w.heap.size<=w'.heap.size
 os:w'.os=w.os
 tape:w'.tape=w.tape
 output:w'.output=w.output
 drawn:w.drawn<=w'.drawn
open Go.Sort Go.Proofs Go.RowKit Go.Lib Go.Shelf
variable {P:Program}
structure El{X:Type}(β:aQ)(E:Enc X)(xs:List X)(d:Wd) where
 x:X
 y:E.Y
 v:List Value
 mem:x∈xs
 rel:bB β (E.pat x y) v
 cell:(E.pat x y).all cellV=true
 fs:∀f∈E.fs x y,f.p d
end Go.Ideal
namespace Go.Ideal
open Go.Proofs Go.RowKit Go.Lib Go.Shelf
variable {P:Program}
structure TB(P:Program)(f:FuncId)(z:Value)(e:TypeId)(fV:Nat):Prop where
 room:∀(b off n c i vb vo:Nat) (cs:List Value) (v:Value) (w:World),i<n->n+1<=c->(n+1)*fV<=140737488355328->vb≠b->cs.length=n->(∀j u,cs[j]? =some u->w.cell? ⟨b,off+j,none⟩=some u)->(∀j,j<n+1->(w.cell? ⟨b,off+j,none⟩).isSome=true)->
  (∀j,j<n+1->w.frozen? ⟨b,off+j,none⟩=false)->w.cell? ⟨vb,vo,none⟩=some v->(∀u∈cs,u.oneCell'=true)->v.oneCell'=true->∀(tA tB:TypeId) (kA kB:Nat),w.shape? vb=some (tA,kA)->w.shape? b=some (tB,kB)->kB≠0->w.frozen? ⟨vb,vo,none⟩=false->w.frozen? ⟨vb,kA,none⟩=false->
  Calls P f #[.slice (some ⟨b,off,none⟩) n c,.int .i64 i,.slice (some ⟨vb,vo,none⟩) 1 1] w λe w'=>e=.returned (.slice (some ⟨b,off,none⟩) (n+1) c)/\w'=(w.drew.setCells b (off+(i+1)) (cs.drop i)).setCells b (off+i) [v]
 grow:∀(b off n c i vb vo:Nat) (cs:List Value) (v:Value) (w:World),i<n->n<=c->c<n+1->(n+1)*fV<=140737488355328->cs.length=n->(∀j u,cs[j]? =some u->w.cell? ⟨b,off+j,none⟩=some u)->w.cell? ⟨vb,vo,none⟩=some v->(∀u∈cs,u.oneCell'=true)->v.oneCell'=true->
  Calls P f #[.slice (some ⟨b,off,none⟩) n c,.int .i64 i,.slice (some ⟨vb,vo,none⟩) 1 1] w λr w'=>∃k,n+1<=k/\r=.returned (.slice (some ⟨w.heap.size,0,none⟩) (n+1) k)/\
   w'=(((w.alloc (.cells ⟨cs.take i++List.replicate (n+1 - i) z++List.replicate (k - (n+1)) z⟩ e)).drew.setCells w.heap.size i [v]).drew).setCells w.heap.size (i+1) (cs.drop i)
end Go.Ideal
namespace Go.Ideal
open Go.Sort Go.RowKit Go.Proofs
variable {P:Program}
end Go.Ideal
namespace Go.Ideal
variable {P:Program}
section
variable {B:ae Nat} {w0:Wd} {kl kl':ae OA} {F:ae aI} {K:KO} {ds:ae Tmp} {rest:ae aS} {n:Nat} {l:qr} {D:ae Deferred} {pm:az FrameMode} {ro:az Nat} {d:Nat} {g:az (Tmp×Bool)}
end
end Go.Ideal
namespace Go.Ideal
variable {P:Program} {B:ae Nat} {w0:Wd} {kl kl' bA:ae OA} {F:ae aI} {K:KO} {ds:ae Tmp} {rest:ae aS} {n:Nat} {l:qr} {D:ae Deferred} {pm:az FrameMode} {ro:az Nat} {d:Nat} {g:az (Tmp×Bool)}
def TF{α:Type}{E:Enc α}(a b:ae (α×E.Y)):dP E (a++b)=dP E a++dP E b:=by unfold dP;grind
def GY{ρ:aB->ah}{x:aB}{OJ OL:az aB}{b o f m c lo hi:Nat}{size:Nat}(hx:ρ x=.slice (some ⟨b,o,some f⟩) m c)(hf:f=0\/f=size)(hs:0<size)(hlo:OJ=none/\lo=0\/∃t,OJ=some t/\ρ t=.int .i64 (lo:Int))(hhi:OL=none/\hi=m\/∃t,OL=some t/\ρ t=.int .i64 (hi:Int))(h1:lo<=hi)(h2:hi<=c):
 Pu P ρ (.FT size x OJ OL none) (.slice (some ⟨b,o+lo*size,some f⟩) (hi - lo) (c - lo)):=λh=>by
 have e3:=Zo h2;have e4:=Zo h1;have hbd:bounds? m c (jK ρ OJ) (jK ρ OL) none=some (lo,hi,c):=by
  rcases hlo with⟨rfl,rfl⟩|⟨t,rfl,ht⟩<;>rcases hhi with⟨rfl,hm⟩|⟨t',rfl,ht'⟩
  .rw[hm];rfl
  .show bounds? m c none (some (ρ t')) none=_;rw[ht'];show(match upTo c (.int .i64 hi)with|none=>none|some h=>match some 0 with|none=>none|some l=>some (l,h,c))=_;rw[e3]
  .rw[hm]at e4⊢;show bounds? m c (some (ρ t)) none none=_;rw[ht];show(match upTo m (.int .i64 lo)with|none=>none|some l=>some (l,m,c))=_;rw[e4]
  .show bounds? m c (some (ρ t)) (some (ρ t')) none=_;rw[ht,ht'];show(match upTo c (.int .i64 hi)with|none=>none|some h=>match upTo h (.int .i64 lo)with|none=>none|some l=>some (l,h,c))=_
   grind
 have h3:jK ρ none=none:=rfl;simp only[aR.run,hx,h3,hbd];match f,hf with
 |0,_=>rfl
 |k+1,hf=>
  have hk:k+1=size:=by
   grind
  show cond (Nat.beq (Nat.succ k) size) (some (Value.slice (some ⟨b,Nat.add o (Nat.mul lo size),some (Nat.succ k)⟩) (hi - lo) (c - lo),h)) none=_;rw[show Nat.beq (Nat.succ k) size=true by rw[show Nat.succ k=size from hk];exact FI _];rfl
def ax3(cs:ae ah):jV cs cs.length []=some cs:=by
 have:=OE (cs1:=cs) (cs2:=[]) (xs:=[]) (bI _);simpa using this
end Go.Ideal
namespace Go.Ideal
variable {P:Program} {B:ae Nat} {w0:Wd} {kl kl' bA:ae OA} {F:ae aI} {K:KO} {ds:ae Tmp} {rest:ae aS} {n:Nat} {l:qr} {D:ae Deferred} {pm:az FrameMode} {ro:az Nat} {d:Nat} {g:az (Tmp×Bool)}
def sk{α:Type}(E:Enc α)(v:ah)(aF:ae (α×E.Y)):OA:=
 ⟨λw S=>(aF=[]/\v=.slice none 0 0/\S=[])\/∃b f c r,v=.slice (some ⟨b,0,some f⟩) aF.length c/\(f=0\/f=E.n)/\S=[b]/\w.h.get b=some (.cells (dP E aF++r))/\aF.length*E.n+r.length=c*E.n/\aF.length<=c/\
  ∀p∈aF,∀q∈E.fs p.1 p.2,q.p w,
  λa h hp=>by
   rcases hp with hp|⟨b,f,c,r,h1,h2,h3,h4,h5,h6,h7⟩
   .exact .inl hp
   .exact .inr ⟨b,f,c,r,h1,h2,h3,by rw[h b rp];exact h4,h5,h6,λp hp q hq=>q.mono a (h7 p hp q hq)⟩⟩
section
variable {α:Type} {v:ah}
def awg(E:Enc α){Q:IH->Prop}(h:R Q B w0 (sk E (.slice none 0 0) []::kl) F):R Q B w0 kl F:=λw s=>by
 exact da
def atN(E:Enc α){aF:ae (α×E.Y)}{Q:IH->Prop}(h:∀a c,v=.slice a aF.length c->R Q B w0 kl F)(hk:aD (sk E v aF) kl kl':=by exact dG):R Q B w0 kl F:=λw s=>by
 obtain⟨S,⟨S1,S2,q1,q2,e⟩,h2,h3⟩:=(s.fB hk).own;rcases q1 with⟨rfl,h1,_⟩|⟨b,f,c,r,h4,_⟩
 .exact h _ _ h1 w s
 .exact h _ _ h4 w s
def ax4(E:Enc α){aF:ae (α×E.Y)}{x:aB}(next:R (λh=>aO P ds rest (act n ((d,.int .i64 (aF.length:Int))::l) D pm ro) h K) B w0 kl F)(hx:ev l x=v:=by conv=>lhs;whnf)(hk:aD (sk E v aF) kl kl':=by exact dG)(hn:Nat.blt d n=true:=by rfl)(hg:bJ l g=true:=by rfl):
 R (λh=>aO P ds (⟨⟨some d,g,.pV x⟩,[]⟩::rest) (act n l D pm ro) h K) B w0 kl F:=
 atN E (v:=v) (aF:=aF) (λa c e=>(dx hn hg (Ns (hx.trans e))).h next) hk
def awh(E:Enc α){aF:ae (α×E.Y)}{Q:IH->Prop}(hne:0<aF.length)(h:∀b f c r,(f=0\/f=E.n)->aF.length*E.n+r.length=c*E.n->aF.length<=c->v=.slice (some ⟨b,0,some f⟩) aF.length c->R Q B w0 (pt b (.cells (dP E aF++r))::kl') (vZ E aF::F))(hk:aD (sk E v aF) kl kl':=by exact dG):
 R Q B w0 kl F:=λw s=>by
 have s1:=s.fB hk;obtain⟨S,⟨S1,S2,q1,q2,e⟩,h2,h3⟩:=s1.own;rcases q1 with⟨h0,_⟩|⟨b,f,c,r,e1,e2,e3,e4,e5,e6,e7⟩
 .rw[h0]at hne;simp at hne
 .refine h b f c r e2 e5 e6 e1 w ⟨s1.agree,s1.le,s1.fF,⟨S,⟨S1,S2,⟨e3,e4⟩,q2,e⟩,h2,h3⟩,λq hq=>?_⟩;rcases dm.1 hq with rfl|hq
  .exact e7
  .exact s1.facts q hq
def ax5(E:Enc α){aF:ae (α×E.Y)}{Q:IH->Prop}{b f c m:Nat}{r:ae ah}(hm:m=aF.length)(hf:f=0\/f=E.n)(hr:aF.length*E.n+r.length=c*E.n)(hc:aF.length<=c)(h:R Q B w0 (sk E (.slice (some ⟨b,0,some f⟩) m c) aF::kl') F)
 (hk:aD (pt b (.cells (dP E aF++r))) kl kl':=by exact dG) (ha:vZ E aF∈F:=by exact iN):R Q B w0 kl F:=λw s=>by
 have hall:=s.facts _ ha;refine h w ((s.fB hk).yz (A:=pt b (.cells (dP E aF++r))) λS hp=>.inr ⟨b,f,c,r,by rw[hm],hf,hp.1,hp.2,hr,hc,hall⟩)
def awi{E:Enc α}{aF:ae (α×E.Y)}{k j o:Nat}{p:α×E.Y}{u:ah}{r:ae ah}(hp:aF[k]? =some p)(hu:(E.pat p.1 p.2)[j]? =some u)(ho:o=k*E.n+j):(dP E aF++r)[o]? =some u:=by
 subst ho;have h:=yC hp hu;rw[ql (bz.1 h).1];exact h
def awj{re:ae jh}(E:Enc α){e:aM}{size bytes b':Nat}{s x:aB}{aF:ae (α×E.Y)}(a:α)(y:E.Y){cs:ae ah}{k1 k2:ae OA}
 (hm:(aF.length+1)*bytes<=1073741824/\(aF.length+1)*size<=1073741824/\aF.length+1<=1073741824)
 (next:∀v',R (λh=>aO P ds rest (act n ((d,v')::l) D pm ro) h K) B w0 (sk E v' (aF++[(a,y)])::k2) F)
 (hn:Nat.blt d n=true:=by rfl) (hg:bJ l g=true:=by rfl)
 (hs:ev l s=v:=by conv=>lhs;whnf) (hx:ev l x=.slice (some ⟨b',0,some 0⟩) 1 1:=by rfl) (hk:aD (sk E v aF) kl k1:=by exact dG) (hc:aD (pt b' (.cells cs)) k1 k2:=by exact dG) (hp:cs=E.pat a y:=by rfl) (hF:Sub (E.fs a y) F:=by exact kV) (hz:E.n=size:=by rfl)
 (hsm:∀v',Same P re (ev ((d,v')::l)) ((d,v')::l) B w0 (sk E v' (aF++[(a,y)])::k2) F:=by intro _;repeat (first|exact Gv|refine Gw rfl dG oA rfl ?_|refine JS rfl iN oA rfl ?_|refine JU rfl iN oA rfl ?_|refine JV rfl dG oA rfl ?_|refine JW rfl iN oA rfl ?_|refine JX rfl iN oA rfl ?_)):
 R (λh=>aO P ds (⟨⟨some d,g,.append e size bytes s x⟩,re⟩::rest) (act n l D pm ro) h K) B w0 kl F:=λw st=>by
 subst hp hz;have hlen:=E.len a y;have st2:St B w0 (sk E v aF::pt b' (.cells (E.pat a y))::k2) F w:=st.ku (.cons hk (.cons hc .nil));have hat:At w.h b' (.cells (E.pat a y)):=st2.at_ (.there .here);have pu:St B w0 (sk E v aF::k2) F w:=(st2.fB (.there .here)).tail;have hfs:∀f∈E.fs a y,f.p w:=λf hf=>st.facts f (hF.mem f hf);have hread:w.h.je b' 0 (1*E.n)=some (E.pat a y):=by
  exact ii
 have hx1:qp (ev l x)=some (0+1):=by rw[hx];rfl
 have hx2:pg E.n (0+1) (ev l x) w.h=some (E.pat a y):=sv
 have hone:dP E [(a,y)]=E.pat a y:=by simp[dP]
 have put:∀(w':Wd) (c:Nat) (f cc:Nat) (r:ae ah),(f=0\/f=E.n)->(∀p∈aF,∀q∈E.fs p.1 p.2,q.p w')->(∀q∈E.fs a y,q.p w')->(aF.length+1)*E.n+r.length=cc*E.n->aF.length+1<=cc->
  ∀S,(pt c (.cells (dP E aF++(E.pat a y++r)))).p w' S->(sk E (.slice (some ⟨c,0,some f⟩) (aF.length+1) cc) (aF++[(a,y)])).p w' S:=by
  intro w' c f cc r h1 h2 h3 h4 h5 S hp;refine .inr ⟨c,f,cc,r,by rw[fu];rfl,h1,hp.1,?_,by rw[fu];exact h4,by rw[fu];exact h5,λp hp=>?_⟩
  .rw[TF,hone,gp];exact hp.2
  .rcases fU.1 hp with hp|hp
   .exact h2 p hp
   .rw[eG.1 hp];exact h3
 obtain⟨S,⟨S1,S2,q,q2,e1⟩,hnd,hown⟩:=pu.own;rcases q with⟨rfl,rfl,rfl⟩|⟨b,f,c,r,rfl,hf,rfl,hb,hrl,hcl,hel⟩
 .have key:∀h',Agree w.h h'->At h' w.h.next (.cells (E.pat a y))->h'.next=w.h.next+1->∃w':Wd,w'.h=h'/\St B w0 (sk E (.slice (some ⟨w.h.next,0,some E.n⟩) 1 1) ([]++[(a,y)])::k2) F w':=λh' ag uK hnx=>by
   obtain⟨w',e1,kF⟩:=pu.tail.fresh ag uK hnx;refine⟨w',e1,kF.yz λS hp=>?_⟩;exact put w' _ E.n 1 [] (.inr rfl) (λp hp=>by cases hp) (λf hf=>kF.facts f (hF.mem f hf)) ox ox S (by simpa[dP]using hp)
  refine ajZ (c:=0) hn hg hs hx1 hx2 p0 (λh' ag uK hnx=>?_) λh' ag uK hnx=>?_
  .exact gK
  .exact mA
 .have zA:St B w0 (pt b (.cells (dP E aF++r))::k2) F w:=⟨pu.agree,pu.le,pu.fF,⟨S,⟨_,S2,⟨rfl,hb⟩,q2,e1⟩,hnd,hown⟩,pu.facts⟩
  have JR:At w.h b (.cells (dP E aF++r)):=zA.at_ .here;have hfl:=zJ aF;by_cases hlt:aF.length<c
  .
   have hle:∀{a b:Nat},a<=b->Nat.ble a b=true:=λh=>by rw[vH];exact h
   have hroom:E.n<=r.length:=by
    have h1:(aF.length+1)*E.n<=c*E.n:=Nat.mul_le_mul_right _ hlt;rw[wO,BS]at h1;omega
   have hlv:jV (dP E aF++r) (dP E aF).length (E.pat a y)=some (dP E aF++(E.pat a y++r.drop E.n)):=by
    rw[OE ov,hlen]
   have stN:St B w0 (sk E (.slice (some ⟨b,0,some f⟩) (aF.length+1) c) (aF++[(a,y)])::k2) F ⟨w.h.set b (.cells (dP E aF++(E.pat a y++r.drop E.n))),w.z,λi hi=>w.oq i hi⟩:=by
    have st6:=zA.write (o':=.cells (dP E aF++(E.pat a y++r.drop E.n)));have AO:w.Le ⟨w.h.set b (.cells (dP E aF++(E.pat a y++r.drop E.n))),w.z,λi hi=>w.oq i hi⟩:=by
     refine⟨bG _,λ_ h=>h,λi hi=>?_⟩;have:i≠b:=λe=>(hown b (by rw[e1];simp)).2.2 (e▸hi);show(w.h.set b _).get i=_;rw[IH.og,if_neg this]
    refine st6.yz λS hp=>put _ b f c (r.drop E.n) hf (λp hp q hq=>q.mono AO (hel p hp q hq)) (λq hq=>q.mono AO (hfs q hq)) ?_ hlt S hp;rw[uo,wO,BS];omega
   refine ZU hn hg (v:=.slice (some ⟨b,0,some f⟩) (aF.length+1) c) (h':=w.h.set b (.cells (dP E aF++(E.pat a y++r.drop E.n)))) ?_ (hsm _ ⟨w.h.set b _,w.z,λi hi=>w.oq i hi⟩ stN) (next _ ⟨w.h.set b _,w.z,λi hi=>w.oq i hi⟩ stN)
   .have e2:w.h.storeAt b (Nat.add 0 (Nat.mul aF.length E.n)) (E.pat a y)=some (w.h.set b (.cells (dP E aF++(E.pat a y++r.drop E.n)))):=by
     unfold IH.storeAt;simp only[hb];rw[show Nat.add 0 (Nat.mul aF.length E.n)=(dP E aF).length by rw[hfl];exact gq _,hlv]
    have ax6:qp (ev l x)=some 1:=hx1;have ax7:Aj E.n 1 (ev l x) w.h=some (E.pat a y):=hx2;simp only[aR.run,ax6,ax7,hs,Cf];show cond (Nat.ble (Nat.mul (aF.length+1) bytes) small&&Nat.ble (Nat.mul (aF.length+1) E.n) small&&Nat.ble (aF.length+1) small) (cond (Nat.ble (aF.length+1) c) (match w.h.storeAt b (Nat.add 0 (Nat.mul aF.length E.n)) (E.pat a y)with|some h=>some (Value.slice (some ⟨b,0,some f⟩) (aF.length+1) c,h)|none=>none) _) none=_;rw[hle (show Nat.mul (aF.length+1) bytes<=small from hm.1),hle (show Nat.mul (aF.length+1) E.n<=small from hm.2.1),hle (show aF.length+1<=small from hm.2.2),hle hlt,e2];rfl
  .have hc:c=aF.length:=by omega
   subst hc;have hr0:r=[]:=pU.1 ov;subst hr0;rw[jo]at hb JR zA;have key:∀h',Cv w.h h' b (.cells (dP E aF++E.pat a y))->∃w':Wd,w'.h=h'/\St B w0 (sk E (.slice (some ⟨w.h.next,0,some E.n⟩) (aF.length+1) (aF.length+1)) (aF++[(a,y)])::k2) F w':=λh' mv=>by
    obtain⟨w',e1,kF,AO⟩:=zA.move mv;refine⟨w',e1,kF.yz λS hp=>?_⟩;exact put w' _ E.n (aF.length+1) [] (.inr rfl) (λp hp q hq=>q.mono AO (hel p hp q hq)) (λf hf=>kF.facts f (hF.mem f hf)) ox (bG _) S (by rw[jo];exact hp)
   refine ajY (old:=dP E aF) (xs:=E.pat a y) hn hg hs hx1 hx2 ?_ (hf.elim (λe=>.inl (by rw[e])) λe=>.inr (by rw[e])) hm (λh' mv=>?_) λh' mv=>?_
   .rw[JR.cX.je,qw,qM,za,if_pos ov,<- hfl,dK]
   .exact n5
   .obtain⟨w',rfl,kF⟩:=key h' mv;exact next _ w' kF
end
def ax8{α:Type}(E:Enc α){aF:ae (α×E.Y)}{Q:IH->Prop}{b f c m:Nat}{r:ae ah}(hm:m<=aF.length)(hf:f=0\/f=E.n)(hr:aF.length*E.n+r.length=c*E.n)(hc:aF.length<=c)(h:R Q B w0 (sk E (.slice (some ⟨b,0,some f⟩) m c) (aF.take m)::kl') F)
 (hk:aD (pt b (.cells (dP E aF++r))) kl kl':=by exact dG) (ha:vZ E aF∈F:=by exact iN):R Q B w0 kl F:=λw s=>by
 have hall:=s.facts _ ha;refine h w ((s.fB hk).yz (A:=pt b (.cells (dP E aF++r))) λS hp=>.inr ⟨b,f,c,dP E (aF.drop m)++r,by rw[gW,Ae hm],hf,hp.1,?_,?_,?_,λp hp=>hall p (FL hp)⟩)
 .rw[<- gp,<- TF,l5];exact hp.2
 .rw[fu,zJ,gW,uo,Ae hm,<- hr,<- pR,<- wO];congr 2;omega
 .rw[gW];omega
def awk{α:Type}(E:Enc α){v:ah}{aF:ae (α×E.Y)}:qV (sk E v aF) [ay E v (aF.map (·.1))]:=λw w' S hp hle hh hz f hf=>by
 rw[eG.1 hf];rcases hp with⟨rfl,rfl,_⟩|⟨b,f,c,r,e1,e2,e3,e4,e5,e6,e7⟩
 .exact .inl ⟨rfl,none,0,rfl,trivial⟩
 .refine .inr ⟨b,0,f,c,dP E aF++r,⟨by rw[bi];exact e1,by rw[bi];exact e6,e2⟩,⟨hz b (by rw[e3];exact eG.2 rfl),.inl (by rw[hh];exact e4)⟩,λk x hx=>?_⟩;rw[eF]at hx;cases e:aF[k]? with
  |none=>rw[e]at hx;cases hx
  |some p=>
   rw[e]at hx;cases hx;exact⟨p.2,λj u hj=>awi e hj ov,λq hq=>q.mono hle (e7 p (aV e) q hq)⟩
def aq{α:Type}(E:Enc α)(v:ah)(aF:ae (α×E.Y)):OA:=
 ⟨λw S=>(aF=[]/\v=.slice none 0 0/\S=[])\/∃b f,v=.slice (some ⟨b,0,some f⟩) aF.length aF.length/\(f=0\/f=E.n)/\S=[b]/\w.h.get b=some (.cells (dP E aF))/\∀p∈aF,∀q∈E.fs p.1 p.2,q.p w,
  λa h hp=>by
   rcases hp with hp|⟨b,f,h1,h2,h3,h4,h7⟩
   .exact .inl hp
   .exact .inr ⟨b,f,h1,h2,h3,by rw[h b rp];exact h4,λp hp q hq=>q.mono a (h7 p hp q hq)⟩⟩
section
variable {α:Type} {v:ah}
def ax9(E:Enc α){Q:IH->Prop}(h:R Q B w0 (aq E (.slice none 0 0) []::kl) F):R Q B w0 kl F:=λw s=>by
 exact da
def aya(E:Enc α){aF:ae (α×E.Y)}{Q:IH->Prop}(h:R Q B w0 (sk E v aF::kl') F)(hk:aD (aq E v aF) kl kl':=by exact dG):R Q B w0 kl F:=λw s=>
 h w ((s.fB hk).CB (A:=aq E v aF) λw S hp=>by
  rcases hp with hp|⟨b,f,h1,h2,h3,h4,h7⟩
  .exact .inl hp
  .exact .inr ⟨b,f,aF.length,[],h1,h2,h3,by rw[jo];exact h4,ox,bG _,h7⟩)
def aeG{re:ae jh}(E:Enc α){e:aM}{size bytes:Nat}{s x:aB}{vx:ah}{aF:ae (α×E.Y)}(CV:ae (α×E.Y))(hm:(aF.length+CV.length)*bytes<=1073741824/\(aF.length+CV.length)*size<=1073741824/\aF.length+CV.length<=1073741824)
 (next:∀v',R (λh=>aO P ds rest (act n ((d,v')::l) D pm ro) h K) B w0 (aq E v' (aF++CV)::kl') F)
 (hs:ev l s=v:=by conv=>lhs;whnf) (hx:ev l x=vx:=by conv=>lhs;whnf) (hf:vY E vx CV∈F:=by exact iN) (hz:E.n=size:=by rfl) (hk:aD (aq E v aF) kl kl':=by exact dG) (hn:Nat.blt d n=true:=by rfl) (hg:bJ l g=true:=by rfl)
 (hsm:∀v',Same P re (ev ((d,v')::l)) ((d,v')::l) B w0 (aq E v' (aF++CV)::kl') F:=by intro _;repeat (first|exact Gv|refine Gw rfl dG oA rfl ?_|refine JS rfl iN oA rfl ?_|refine JU rfl iN oA rfl ?_|refine JV rfl dG oA rfl ?_|refine JW rfl iN oA rfl ?_|refine JX rfl iN oA rfl ?_)):
 R (λh=>aO P ds (⟨⟨some d,g,.append e size bytes s x⟩,re⟩::rest) (act n l D pm ro) h K) B w0 kl F:=λw st=>by
 subst hz;have st1:=st.fB hk;have hel:=st.facts _ hf;have hall:=ajS hel;obtain⟨r1,r2⟩:=ax1 hel;obtain⟨S,⟨S1,S2,q,q2,e1⟩,hnd,hown⟩:=st1.own;rcases q with⟨rfl,rfl,rfl⟩|⟨b,f,rfl,hf0,rfl,hb,hal⟩
 .by_cases hne:CV=[]
  .subst hne;obtain⟨a,c,ev0⟩:∃a c,vx=.slice a 0 c:=by
    exact iu
   have stN:St B w0 (aq E (.slice none 0 0) ([]++[])::kl') F w:=⟨st1.agree,st1.le,st1.fF,⟨S,⟨[],S2,.inl ⟨rfl,rfl,rfl⟩,q2,e1⟩,hnd,hown⟩,st1.facts⟩
   exact ZU hn hg (ax2 hs (hx.trans ev0) w.h) (hsm _ w stN) (next _ w stN)
  .obtain⟨k,hk'⟩:∃k,CV.length=k+1:=⟨CV.length - 1,sA⟩
   rw[hk']at r1 r2;have key:∀h',Agree w.h h'->At h' w.h.next (.cells (dP E CV))->h'.next=w.h.next+1->∃w':Wd,w'.h=h'/\St B w0 (aq E (.slice (some ⟨w.h.next,0,some E.n⟩) (k+1) (k+1)) ([]++CV)::kl') F w':=λh' ag uK hnx=>by
    obtain⟨w',e1,kF⟩:=st1.tail.fresh ag uK hnx;refine⟨w',e1,kF.yz λS hp=>.inr ⟨w.h.next,E.n,by rw[bP,hk'],.inr rfl,hp.1,by rw[bP];exact hp.2,λp hp q hq=>?_⟩⟩;rw[bP]at hp;exact ajS (kF.facts _ hf) p hp q hq
   refine ajZ (c:=0) (k:=k) hn hg hs (by rw[hx];exact r1) (by rw[hx];exact r2) (by rw[hk']at hm;simpa using hm) (λh' ag uK hnx=>?_) λh' ag uK hnx=>?_
   .exact gK
   .exact mA
 .have zA:St B w0 (pt b (.cells (dP E aF))::kl') F w:=⟨st1.agree,st1.le,st1.fF,⟨S,⟨_,S2,⟨rfl,hb⟩,q2,e1⟩,hnd,hown⟩,st1.facts⟩
  have st6:St B w0 (pt b (.cells (dP E aF))::kl') (vZ E aF::F) w:=⟨zA.agree,zA.le,zA.fF,zA.own,λq hq=>by
   rcases dm.1 hq with rfl|hq
   .exact hal
   .exact zA.facts q hq⟩
  have key:∀(b' f' m':Nat),m'=(aF++CV).length->(f'=0\/f'=E.n)->∀w2,St B w0 (pt b' (.cells (dP E (aF++CV)))::kl') (vZ E aF::F) w2->St B w0 (aq E (.slice (some ⟨b',0,some f'⟩) m' m') (aF++CV)::kl') F w2:=λb' f' m' hm' hf' w2 s2=>by
   have hA1:=s2.facts (vZ E aF) (eX ..);have hA2:=ajS (s2.facts _ (fP _ hf));have s3:St B w0 (pt b' (.cells (dP E (aF++CV)))::kl') F w2:=s2.sub (pz.sub (.cons .here));exact s3.yz λS hp=>.inr ⟨b',f',by rw[hm'],hf',hp.1,hp.2,λp hp q hq=>(fU.1 hp).elim (λh=>hA1 p h q hq) (λh=>hA2 p h q hq)⟩
  by_cases hne:CV=[]
  .subst hne;obtain⟨a,c,ev0⟩:∃a c,vx=.slice a 0 c:=by
    exact iu
   have st7:St B w0 (pt b (.cells (dP E (aF++[])))::kl') (vZ E aF::F) ⟨w.h.set b (.cells (dP E aF)),w.z,λi hi=>w.oq i hi⟩:=by rw[jo];exact st6.write
   have stN:=key b f aF.length (by rw[jo]) hf0 _ st7;have hle:∀{a b:Nat},a<=b->Nat.ble a b=true:=λh=>by rw[vH];exact h
   rw[List.length_nil,FD]at hm;refine ZU hn hg (v:=.slice (some ⟨b,0,some f⟩) aF.length aF.length) (h':=w.h.set b (.cells (dP E aF))) ?_ (hsm _ _ stN) (next _ _ stN);have hfl:=zJ aF;have e1:w.h.storeAt b (Nat.add 0 (Nat.mul aF.length E.n)) []=some (w.h.set b (.cells (dP E aF))):=by
    have e2:jV (dP E aF) (Nat.add 0 (Nat.mul aF.length E.n)) []=some (dP E aF):=by
     rw[show Nat.add 0 (Nat.mul aF.length E.n)=(dP E aF).length by rw[hfl];exact gq _];exact ax3 _
    unfold IH.storeAt;simp only[hb,e2]
   simp only[aR.run,hx,hs,r1,r2,Cf];rw[show Nat.add aF.length (List.length ([]:ae (α×E.Y)))=aF.length from rfl,show dP E ([]:ae (α×E.Y))=[]from rfl];rw[hle (show Nat.mul aF.length bytes<=small from hm.1),hle (show Nat.mul aF.length E.n<=small from hm.2.1),hle (show aF.length<=small from hm.2.2),hle (bG aF.length)];simp only[Bool.and_self,cond_true,e1]
  .obtain⟨k,hk'⟩:∃k,CV.length=k+1:=⟨CV.length - 1,sA⟩
   have hat:At w.h b (.cells (dP E aF)):=zA.at_ .here;have hfl:=zJ aF;have awl:∀h',Cv w.h h' b (.cells (dP E aF++dP E CV))->∃w':Wd,w'.h=h'/\St B w0 (aq E (.slice (some ⟨w.h.next,0,some E.n⟩) (aF.length+(k+1)) (aF.length+(k+1))) (aF++CV)::kl') F w':=λh' mv=>by
    obtain⟨w',e1,kF,AO⟩:=st6.move mv;rw[<- TF]at kF;exact⟨w',e1,key _ _ _ (by rw[fu,hk']) (.inr rfl) w' kF⟩
   rw[hk']at r1 r2 hm;refine ajY (b:=b) (o:=0) (m:=aF.length) (k:=k) (f:=some f) (old:=dP E aF) (xs:=dP E CV) hn hg hs (by rw[hx];exact r1) (by rw[hx];exact r2) ?_ (by rcases hf0 with h|h<;>rw[h];exact .inl rfl;exact .inr rfl) hm (λh' mv=>?_) λh' mv=>?_
   .rw[hat.cX.je,qw,za,qM,if_pos ov,List.take_of_length_le ov]
   .obtain⟨w',rfl,kF⟩:=awl h' mv;exact hsm _ w' kF
   .obtain⟨w',rfl,kF⟩:=awl h' mv;exact next _ w' kF
end
end Go.Ideal
namespace Go.Ideal
variable {P:Program}
section
variable {B:ae Nat} {w0:Wd} {kl kl' bA:ae OA} {F:ae aI} {K:KO} {n:Nat} {l:qr} {D:ae Deferred} {pm:az FrameMode} {ro:az Nat}
end
