/-
  A copy of results that are written anew.
-/
import Derived.Test.YtbdaaopebgcnaaaGreatDoorLibMM
import Derived.Test.YtbdaaopebgcnaaaGreatDoorPlainCM
set_option linter.all false
set_option maxRecDepth 10000
set_option maxHeartbeats 4000000
namespace Go.Proofs.YtbdaaopebgcnaaaGreatDoor
open Go.Ideal Rk
def jg(l:List aA):List Value:=aK bR (l.map λx=>(x,()))
theorem Sd(l:List aA):(jg l).length=l.length*6:=by unfold jg;rw[qR,bI];rfl
theorem aei{aa:List (aA×bR.Y)}:aK bR aa=jg (aa.map (·.1)):=by
 unfold jg;rw[zW];congr 1;exact(CG aa).symm.trans (List.map_congr_left λp _=>rfl)
section
variable {P:Program} {B:List Nat} {w0:Wd} {kl kl':List OA} {F:List aB} {K:KO} {ds:List Tmp} {rest:List aP} {n:Nat} {l':List (Nat×Value)} {D:List Deferred} {pm:Option FrameMode} {ro:Option Nat} {d:Nat} {g:Option (Tmp×Bool)}
theorem Sg{e:TypeId}{bytes b:Nat}{s x:Operand}{v:Value}{l:List aA}(hm:l.length*bytes<=1073741824/\l.length<=1000000)
 (next:∀b' f',(f'=0\/f'=bR.n)->R (λh=>ax P ds rest (act n ((d,.slice (some ⟨b',0,some f'⟩) l.length l.length)::l') D pm ro) h K) B w0 (pt b' (.cells (jg l))::kl') F)
 (hf:ae bR v l∈F) (hk:ah (pt b (.cells [])) kl kl') (hs:ev l' s=.slice (some ⟨b,0,some 0⟩) 0 0:=by rfl) (hx:ev l' x=v:=by conv=>lhs;whnf) (hn:Nat.blt d n=true:=by rfl) (hg:aZ l' g=true:=by rfl):
 R (λh=>ax P ds (⟨⟨some d,g,.append e 6 bytes s x⟩,[]⟩::rest) (act n l' D pm ro) h K) B w0 kl F:=by
 by_cases h0:l=[]
 ·subst h0;refine eU (E:=bR) (v:=v) (xs:=[]) hf λa c ea=>?_;subst ea;exact OV (b:=b) (next b 0 (.inl rfl)) hs (hx.trans rfl) hk hn hg
 ·have hpos:0<l.length:=rF.2 h0;refine pR bR v (xs:=l) (λaa Si=>?_) (hf:=hf);have hxl:aa.length=l.length:=by rw[<- Si,bI]
  refine Zj (b:=b) bR aa (by omega) (by rw[hxl];omega) (λb'=>?_) hs hx (aS ..) rfl hk hn hg;rw[aei,Si,hxl];exact λw st=>next b' 6 (.inr rfl) w (st.sub (iQ.sub (.cons .here)))
theorem Sj{l:List aA}{b f:Nat}{Q:IH->Prop}(hf:f=0\/f=bR.n)(h:R Q B w0 kl' (ae bR (.slice (some ⟨b,0,some f⟩) l.length l.length) l::F))(hk:ah (pt b (.cells (jg l))) kl kl'):R Q B w0 kl F:=by
 refine Ps bR (aa:=l.map λx=>(x,())) (rest':=[]) (b:=b) (f:=f) (c:=l.length) hf (by rw[bI];exact aC _) ?_ (λw _ p hp f hf=>by cases hf) (hk:=by rw[fJ];exact hk);have e:(l.map λx=>((x,()):aA×bR.Y)).map (·.1)=l:=by rw[zW];exact CG _
 rw[bI,e];exact h
end
end Go.Proofs.YtbdaaopebgcnaaaGreatDoor
namespace Go.Proofs.YtbdaaopebgcnaaaGreatDoor
open Go.Ideal Rk En
noncomputable def Sk:=ym Tryz.prog 44
theorem aej:jD Tryz.prog 44=some Sk:=by kernel_rfl
abbrev Sl(f:aR)(v:Value):List Value:=[.int .i64 f.p,.int .i64 f.k,.int .i64 f.u,.int .i64 f.d,v]
def eF:Enc aR:=⟨5,Value,λf v=>Sl f v,λf v=>[ae az v f.g],λ_ _=>rfl⟩
abbrev F7(P:Program)(fn:Fn)(first cap:List Value)(F:List aB)(p:aR->Bool)(f:aR):Prop:=
 ∀v:Value,aT P fn (first++[.agg ⟨Sl f v⟩]) cap [] (ae az v f.g::F) (λb:Bool=>.bool b) (λ_=>[]) (λ_=>[]) (λb=>b=p f)
theorem aek{fn:Fn}{first cap:List Value}{F1:List aB}{p:aR->Bool}{vf:Value}{fs:List aR}(hl:fs.length<9223372036854775808)(hp:∀f∈fs,F7 Tryz.prog fn first cap F1 p f):
 aT Tryz.prog (.func 65) [vf,.func fn ⟨first⟩ ⟨cap⟩] [] [] (ae eF vf fs::F1) (λr:Int=>.int .i64 r) (λ_=>[]) (λ_=>[]) (λr=>(0<=r↔fs.any p=true)):=by
 refine aV _ (bB 65) λB w0=>?_;refine go ?_;refine dQ (λk=>fs.length - k) (λk:Nat=>[(8,.int .i64 (k:Int))]) (λ_=>[]) (λ_=>[]) (λk=>k<=fs.length/\(fs.take k).any p=false) 0 ⟨by omega,by simp⟩ (body:=?_);rintro k ⟨hk,hno⟩;refine go ?_;refine aM rfl (λh1=>?_) (λh1=>?_)
 ·refine go ?_;refine eX eF (next:=λ_ _ x (y:Value) hx=>?_);refine go ?_;refine aG (hp x (dA hx) y) (next:=λb hb=>?_);refine go ?_;refine jO rfl (λh2=>?_) (λh2=>?_)
  ·refine go ?_;refine aj (k:Int) (hv:=rfl) (hp:=?_);have:fs.any p=true:=wC.2 ⟨x,dA hx,hb▸h2⟩;simp[this]
  ·refine go ?_;refine aY (k+1) (by omega) ⟨by omega,?_⟩;rw[fG hx,List.any_append,hno,List.any_cons,<- hb,h2];rfl
 refine go ?_;have:k=fs.length:=by omega
 subst this;rw[iB]at hno;refine aj (-1) (hv:=rfl) (hp:=?_);rw[hno];simp
theorem Sm{fn:Fn}{first cap:List Value}{F1:List aB}{p:aR->Bool}{vf:Value}{fs:List aR}(hl:fs.length<9223372036854775808)(hp:∀f∈fs,F7 Tryz.prog fn first cap F1 p f):
 aT Tryz.prog (.func 41) [vf,.func fn ⟨first⟩ ⟨cap⟩] [] [] (ae eF vf fs::F1) (λb:Bool=>.bool b) (λ_=>[]) (λ_=>[]) (λb=>b=fs.any p):=by
 refine aV _ (bB 41) λB w0=>?_;refine go ?_;refine aG (aek hl hp) (next:=λr hr=>?_);refine go ?_;refine aj (decide (0<=r)) (hv:=rfl) (hp:=?_);by_cases h:0<=r
 ·rw[fK h,hr.1 h]
 ·rw[gq h];cases e:fs.any p with
  |false=>rfl
  |true=>exact absurd (hr.2 e) h
theorem Sn{d:Int}:ik Tryz.prog 40 [.int .i64 d] [] (.bool (decide (0<=d/\d<1024))):=by
 refine aV _ (bB 40) λB w0=>?_;refine go ?_;refine gG (λh1=>?_) (λh1=>?_)
 ·refine go ?_;exact aj () (hv:=by rw[gq (λh=>h1 h.1)];rfl) (hp:=trivial)
 refine go ?_;refine aj () (hv:=?_) (hp:=trivial);rw[show decide (0<=d/\d<1024)=decide (d<1024)from xW.2 ⟨λh=>h.2,λh=>⟨h1,h⟩⟩];rfl
noncomputable def xL(s:aJ)(f:aR):Bool:= @decide (¬rf s f) (Classical.propDecidable _)
theorem K3{s:aJ}{f:aR}:xL s f=true↔¬rf s f:=by
 unfold xL;exact @decide_eq_true_iff _ (Classical.propDecidable _)
theorem zF{s:aJ}{f:aR}(h:¬rf s f):true=xL s f:=(K3.2 h).symm
theorem ael{b:Nat}{s:aJ}{v1 v2 v3 v4:Value}{f:aR}:F7 Tryz.prog (.func 39) [] [ptr' b] [bU b 0 (kY s v1 v2 v3 v4)] (xL s) f:=by
 intro v;refine aV _ (bB 39) λB w0=>?_;refine eU (E:=az) (v:=v) (xs:=f.g) (by simp) λa c e=>?_;subst e;refine go ?_;intro b2;refine go ?_;refine gG (λh1=>?_) (λh1=>?_)
 rotate_left
 ·refine go ?_;exact aj true (hv:=rfl) (hp:=zF λk=>by have:=k.p0;omega)
 refine go ?_;refine gG (λh2=>?_) (λh2=>?_)
 rotate_left
 ·refine go ?_;exact aj true (hv:=rfl) (hp:=zF λk=>by have:=k.p1;omega)
 refine go ?_;refine gG (λh3=>?_) (λh3=>?_)
 rotate_left
 ·refine go ?_;exact aj true (hv:=rfl) (hp:=zF λk=>by have:=k.k1;omega)
 refine go ?_;refine gG (λh4=>?_) (λh4=>?_)
 rotate_left
 ·refine go ?_;exact aj true (hv:=rfl) (hp:=zF λk=>by have:=k.k3;omega)
 refine go ?_;refine aG (Sn (d:=f.d)) (next:=λ_ _=>?_);refine go ?_;refine aj (!decide (0<=f.d/\f.d<1024)) (hv:=rfl) (hp:=?_);by_cases h5:0<=f.d/\f.d<1024
 ·rw[fK h5];cases e:xL s f with
  |false=>rfl
  |true=>exact absurd ⟨by omega,by omega,by omega,by omega,h5.1,h5.2⟩ (K3.1 e)
 ·rw[gq h5];exact zF λk=>h5 ⟨k.d0,k.d1⟩
theorem Sq{s:aJ}{fs:List aR}:fs.any (xL s)=true↔¬∀f∈fs,rf s f:=by
 constructor
 ·intro h k;obtain⟨f,h1,h2⟩:=wC.1 h;exact K3.1 h2 (k f h1)
 ·intro h;apply Classical.byContradiction;intro k;refine h λf hf=>?_;apply Classical.byContradiction;intro h2;exact k (wC.2 ⟨f,hf,(zF h2).symm⟩)
theorem aem{b1 b2:Nat}{vf:Value}{fs:List aR}{fl:List Bool}{i:Nat}{f:aR}(hf:fs[i]? =some f)(hp0:0<=f.p)(hp1:f.p<8)(h8:fl.length=8)(hl:fs.length<=16):
 aT Tryz.prog (.func 42) [.int .i64 (i:Int)] [ptr' b1,ptr' b2] [pt b1 (.cells (fl.map .bool))] [bU b2 0 [vf],ae eF vf fs] (λ_:Unit=>.tuple ⟨[]⟩) (λ_=>[pt b1 (.cells ((fl.set f.p.toNat true).map .bool))]) (λ_=>[]) (λ_=>True):=by
 have hi:=(dU.1 hf).1;obtain⟨n,hn⟩:=wB hp0;refine aV _ (bB 42) λB w0=>?_;refine go ?_;refine eX eF (k:=i) (next:=λ_ _ x (y:Value) hx=>?_);cases hf.symm.trans hx;refine go ?_;refine qO (o:=0+f.p.toNat*1) (cs:=fl.map .bool) (cs':=(fl.set f.p.toNat true).map .bool) (v:=.bool true) (by rw[dB,jB,wD]) (by rw[bI];omega) ?_;refine go ?_;exact aj () (hv:=rfl) (hp:=trivial)
def oJ(fs:List aR)(a b:Int)(i:Nat):Bool:=decide ((fs.getD i dF).k≠3)&&(!decide ((fs.getD i dF).d<=a)&&decide ((fs.getD i dF).d<=b))
def gT(fs:List aR)(a b:Int)(n:Nat):List Nat:=(List.range n).filter (oJ fs a b)
theorem Cn(fs:List aR)(a b:Int)(n:Nat):gT fs a b (n+1)=if oJ fs a b n then gT fs a b n++[n]else gT fs a b n:=by
 unfold gT;rw[List.range_succ,List.filter_append];by_cases h:oJ fs a b n
 ·rw[if_pos h,List.filter_cons_of_pos h];rfl
 ·rw[if_neg h,List.filter_cons_of_neg h];simp
theorem aen(fs:List aR)(a b:Int){n:Nat}(hn:n<fs.length)(h:oJ fs a b n=true):gT fs a b fs.length=gT fs a b n++n::(gT fs a b fs.length).drop ((gT fs a b n).length+1):=by
 have hp:∀m,∃r,gT fs a b (n+1+m)=gT fs a b (n+1)++r:=by
  intro m;induction m with
  |zero=>exact⟨[],by simp⟩
  |succ m ih=>
   obtain⟨r,hr⟩:=ih;rw[show n+1+(m+1)=(n+1+m)+1 by omega,Cn,hr];split
   ·exact⟨r++[n+1+m],by simp⟩
   ·exact⟨r,rfl⟩
 obtain⟨r,hr⟩:=hp (fs.length - (n+1));rw[show n+1+(fs.length - (n+1))=fs.length by omega,Cn,if_pos h]at hr;rw[hr,gY,List.singleton_append,List.drop_append,uG (by omega),show(gT fs a b n).length+1 - (gT fs a b n).length=1 by omega];rfl
theorem aeo{vf:Value}{fs:List aR}{a b:Int}:aT Tryz.prog (.func 43) [vf,.int .i64 a,.int .i64 b] [] [] [ae eF vf fs] (λy:Nat×Nat×Nat=>.func (.func 66) #[] #[ptr' y.1,ptr' y.2.1,ptr' y.2.2]) (λ_=>[]) (λy=>[bU y.1 0 [vf],bU y.2.1 0 [.int .i64 a],bU y.2.2 0 [.int .i64 b]]) (λ_=>True):=by
 refine aV _ (bB 43) λB w0=>?_;refine eU (E:=eF) (v:=vf) (xs:=fs) (by simp) λav cv e=>?_;subst e;refine go ?_;intro b1 b2 b3;refine go ?_;refine cu (fT (b:=b1)) (h:=?_);refine cu (fT (b:=b2)) (h:=?_);refine cu (fT (b:=b3)) (h:=?_);exact aj (b1,b2,b3) (hv:=rfl) (hp:=trivial)
theorem aep{b1 b2 b3:Nat}{vf:Value}{fs:List aR}{a b:Int}(hl:fs.length<=16):
 EJ Tryz.prog (λi:Nat=>[.int .i64 (i:Int)]) (.func 66) [] [ptr' b1,ptr' b2,ptr' b3] [bU b1 0 [vf],bU b2 0 [.int .i64 a],bU b3 0 [.int .i64 b],ae eF vf fs] (λxs=>xs=gT fs a b fs.length):=by
 intro S inv ok step s0 vG y1 y2 F' h0 hok hy;rw[fC,fC,fC,fC,dw];refine aV _ (bB 66) λB w0=>?_;refine go ?_;refine dQ (λy:Nat×S=>fs.length - y.1) (λy=>[(9,.int .i64 (y.1:Int))]) (λy=>inv y.2) (λ_=>[]) (λy=>y.1<=fs.length/\ok (gT fs a b y.1) y.2/\∀rest,fF step s0 (gT fs a b y.1++rest)=fF step y.2 rest) (0,s0) ⟨dY _,h0,λ_=>rfl⟩ (body:=?_);rintro⟨k,s⟩ ⟨hk,hos,hrun⟩;dsimp only at hk hos hrun⊢;refine go ?_;refine aM rfl (λh1=>?_) (λh1=>?_)
 ·refine go ?_;refine eX eF (k:=k) (next:=λ_ _ x (y:Value) hx=>?_);have hg:fs.getD k dF=x:=by rw[oh,hx];rfl
  refine eU (E:=az) (v:=y) (xs:=x.g) (by simp) λag cg eg=>?_;subst eg;have aeq:oJ fs a b k=false->gT fs a b (k+1)=gT fs a b k:=λh=>by rw[Cn,if_neg (by rw[h];simp)]
  have hdo:oJ fs a b k=false->k+1<=fs.length/\ok (gT fs a b (k+1)) s/\∀rest,fF step s0 (gT fs a b (k+1)++rest)=fF step s rest:=λh=>by rw[aeq h];exact⟨by omega,hos,hrun⟩
  refine go ?_;intro b6;refine go ?_;refine gG (λh2=>?_) (λh2=>?_)
  ·refine go ?_;exact aY (k+1,s) (by show fs.length - (k+1)<fs.length - k;omega) (hdo (by unfold oJ;rw[hg,gq h2];rfl))
  refine go ?_;refine gG (λh3=>?_) (λh3=>?_)
  ·refine go ?_;exact aY (k+1,s) (by show fs.length - (k+1)<fs.length - k;omega) (hdo (by unfold oJ;rw[hg,fK (by omega:x.d<=a)];simp))
  refine go ?_;refine gG (λh4=>?_) (λh4=>?_)
  ·refine go ?_;exact aY (k+1,s) (by show fs.length - (k+1)<fs.length - k;omega) (hdo (by unfold oJ;rw[hg,gq h4];simp))
  have zD:oJ fs a b k=true:=by unfold oJ;rw[hg,fK h2,gq (by omega:¬x.d<=a),fK h4];rfl
  have hX:=(aen fs a b (by omega) zD).symm;have oI:=hy _ s _ _ hos hX;refine go ?_;refine aG oI (next:=λ_ _=>?_);cases hst:(step s k).2 with
  |true=>
   have hs1:step s k=((step s k).1,true):=Prod.ext rfl hst;refine go ?_;refine aY (k+1,(step s k).1) (by show fs.length - (k+1)<fs.length - k;omega) ⟨by show k+1<=_;omega,?_,λrest=>?_⟩
   ·show ok (gT fs a b (k+1)) _;rw[Cn,if_pos zD];exact hok _ s _ _ hos hX hst
   ·show fF step s0 (gT fs a b (k+1)++rest)=_;rw[Cn,if_pos zD,gY,hrun];show fF step s (k::rest)=_;rw[fF,hs1]
  |false=>
   have hs1:step s k=((step s k).1,false):=Prod.ext rfl hst;have hr:=hrun (k::(gT fs a b fs.length).drop ((gT fs a b k).length+1));rw[fF,hs1,hX]at hr;dsimp only at hr;refine go ?_;exact aj (gT fs a b fs.length) (hv:=rfl) (hp:=rfl) (hk:=by rw[hr];exact aL.self _ _)
 have hke:k=fs.length:=by omega
 subst hke;have hr:=hrun [];rw[fJ]at hr;refine go ?_;exact aj (gT fs a b fs.length) (hv:=rfl) (hp:=rfl) (hk:=by rw[hr];exact aL.all _)
