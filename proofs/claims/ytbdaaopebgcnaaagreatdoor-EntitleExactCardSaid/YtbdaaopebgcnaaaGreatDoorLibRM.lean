/-
  A copy of results that are written anew.
-/
import Derived.Test.YtbdaaopebgcnaaaGreatDoorLibMM
import Derived.Test.YtbdaaopebgcnaaaGreatDoorPlainCM
set_option linter.all false
set_option maxRecDepth 10000
set_option maxHeartbeats 4000000
namespace Go.Proofs.YtbdaaopebgcnaaaGreatDoor
open Go.Ideal Rk
def dM(l:List ak):List Value:=aP aZ (l.map λx=>(x,()))
theorem Bu(l:List ak):(dM l).length=l.length*6:=by unfold dM;rw[rH,bI];rfl
theorem agW{aa:List (ak×aZ.Y)}:aP aZ aa=dM (aa.map (·.1)):=by
 unfold dM;rw[BM];congr 1;exact(EL aa).symm.trans (List.map_congr_left λp _=>rfl)
def ic(l:List ak)(R:List (Int×Int))(k:Nat):List ak:=dK (l.take k) (R.take k)++l.drop k
theorem agX{l:List ak}{R:List (Int×Int)}:ic l R 0=l:=by simp[ic,dK]
theorem agY{l:List ak}{R:List (Int×Int)}(h:R.length=l.length):ic l R l.length=dK l R:=by
 unfold ic;rw[gV,nO (by omega),uV (aG _),fU]
theorem agZ{l:List ak}{R:List (Int×Int)}(h:R.length=l.length){k:Nat}(hk:k<l.length):(ic l R k)[k]? =l[k]?:=by
 unfold ic;have hl:(dK (l.take k) (R.take k)).length=k:=by rw[tL (by rw[cB,cB,h]),cB];omega
 rw[lM (by omega),hl,qc,jf,jG]
theorem I6{l:List ak}{R:List (Int×Int)}(h:R.length=l.length){k:Nat}(hk:k<=l.length):(ic l R k).length=l.length:=by
 unfold ic;rw[dN,tL (by rw[cB,cB,h]),cB,iZ];omega
theorem ag0{l:List ak}{R:List (Int×Int)}(h:R.length=l.length){k:Nat}{x:ak}{r:Int×Int}(hx:l[k]? =some x)(hr:R[k]? =some r):(ic l R k).set k {x with lo:=r.1,hi:=r.2}=ic l R (k+1):=by
 have hk:=(dU.1 hx).1;have hl:(dK (l.take k) (R.take k)).length=k:=by rw[tL (by rw[cB,cB,h]),cB];omega
 unfold ic;rw[EK _ _ (by omega),hl,qc,eD hx,eD hr,zz hk];unfold dK;rw[List.zipWith_append (by rw[cB,cB,h]),ig];rfl
section
variable {P:Program} {B:List Nat} {w0:Wd} {kl kl':List OA} {F:List aD} {K:KO} {ds:List Tmp} {rest:List aW} {n:Nat} {l':List (Nat×Value)} {D:List Deferred} {pm:Option FrameMode} {ro:Option Nat} {d:Nat} {g:Option (Tmp×Bool)}
theorem I7{e:TypeId}{bytes b:Nat}{s x:Operand}{v:Value}{l:List ak}(hm:l.length*bytes<=1073741824/\l.length<=1000000)
 (next:∀b' f',(f'=0\/f'=aZ.n)->R (λh=>aA P ds rest (act n ((d,.slice (some ⟨b',0,some f'⟩) l.length l.length)::l') D pm ro) h K) B w0 (pt b' (.cells (dM l))::kl') F)
 (hf:ae aZ v l∈F) (hk:ai (pt b (.cells [])) kl kl') (hs:ev l' s=.slice (some ⟨b,0,some 0⟩) 0 0:=by rfl) (hx:ev l' x=v:=by conv=>lhs;whnf) (hn:Nat.blt d n=true:=by rfl) (hg:bH l' g=true:=by rfl):
 R (λh=>aA P ds (⟨⟨some d,g,.append e 6 bytes s x⟩,[]⟩::rest) (act n l' D pm ro) h K) B w0 kl F:=by
 by_cases h0:l=[]
 ·subst h0;refine eY (E:=aZ) (v:=v) (xs:=[]) hf λa c ea=>?_;subst ea;exact RD (b:=b) (next b 0 (.inl rfl)) hs (hx.trans rfl) hk hn hg
 ·have hpos:0<l.length:=uh.2 h0;refine rJ aZ v (xs:=l) (λaa VJ=>?_) (hf:=hf);have hxl:aa.length=l.length:=by rw[<- VJ,bI]
  refine ab5 (b:=b) aZ aa (by omega) (by rw[hxl];omega) (λb'=>?_) hs hx (aR ..) rfl hk hn hg;rw[agW,VJ,hxl];exact λw st=>next b' 6 (.inr rfl) w (st.sub (jB.sub (.cons .here)))
theorem I8{l:List ak}{b f:Nat}{Q:IH->Prop}(hf:f=0\/f=aZ.n)(h:R Q B w0 kl' (ae aZ (.slice (some ⟨b,0,some f⟩) l.length l.length) l::F))(hk:ai (pt b (.cells (dM l))) kl kl'):R Q B w0 kl F:=by
 refine Sj aZ (aa:=l.map λx=>(x,())) (rest':=[]) (b:=b) (f:=f) (c:=l.length) hf (by rw[bI];exact aG _) ?_ (λw _ p hp f hf=>by cases hf) (hk:=by rw[fU];exact hk);have e:(l.map λx=>((x,()):ak×aZ.Y)).map (·.1)=l:=by rw[BM];exact EL _
 rw[bI,e];exact h
end
end Go.Proofs.YtbdaaopebgcnaaaGreatDoor
namespace Go.Proofs.YtbdaaopebgcnaaaGreatDoor
open Go.Ideal Rk En
noncomputable def VK:=yB Tryz.prog 44
theorem ag1:jN Tryz.prog 44=some VK:=by kernel_rfl
abbrev VL(f:aU)(v:Value):List Value:=[.int .i64 f.p,.int .i64 f.k,.int .i64 f.u,.int .i64 f.d,v]
def dS:Enc aU:=⟨5,Value,λf v=>VL f v,λf v=>[ae ah v f.g],λ_ _=>rfl⟩
abbrev I9(P:Program)(fn:Fn)(first cap:List Value)(F:List aD)(p:aU->Bool)(f:aU):Prop:=
 ∀v:Value,aX P fn (first++[.agg ⟨VL f v⟩]) cap [] (ae ah v f.g::F) (λb:Bool=>.bool b) (λ_=>[]) (λ_=>[]) (λb=>b=p f)
theorem ag2{fn:Fn}{first cap:List Value}{F1:List aD}{p:aU->Bool}{vf:Value}{fs:List aU}(hl:fs.length<9223372036854775808)(hp:∀f∈fs,I9 Tryz.prog fn first cap F1 p f):
 aX Tryz.prog (.func 65) [vf,.func fn ⟨first⟩ ⟨cap⟩] [] [] (ae dS vf fs::F1) (λr:Int=>.int .i64 r) (λ_=>[]) (λ_=>[]) (λr=>(0<=r↔fs.any p=true)):=by
 refine aT _ (bz 65) λB w0=>?_;refine go ?_;refine bR (λk=>fs.length - k) (λk:Nat=>[(8,.int .i64 (k:Int))]) (λ_=>[]) (λ_=>[]) (λk=>k<=fs.length/\(fs.take k).any p=false) 0 ⟨by omega,by simp⟩ (body:=?_);rintro k ⟨hk,hno⟩;refine go ?_;refine aC rfl (λh1=>?_) (λh1=>?_)
 ·refine go ?_;refine cZ dS (next:=λ_ _ x (y:Value) hx=>?_);refine go ?_;refine aB (hp x (dA hx) y) (next:=λb hb=>?_);refine go ?_;refine iW rfl (λh2=>?_) (λh2=>?_)
  ·refine go ?_;refine aj (k:Int) (hv:=rfl) (hp:=?_);have:fs.any p=true:=sw.2 ⟨x,dA hx,hb▸h2⟩;simp[this]
  ·refine go ?_;refine aL (k+1) (by omega) ⟨by omega,?_⟩;rw[eD hx,zB,hno,Jv,<- hb,h2];rfl
 refine go ?_;have:k=fs.length:=by omega
 subst this;rw[gV]at hno;refine aj (-1) (hv:=rfl) (hp:=?_);rw[hno];simp
theorem VM{fn:Fn}{first cap:List Value}{F1:List aD}{p:aU->Bool}{vf:Value}{fs:List aU}(hl:fs.length<9223372036854775808)(hp:∀f∈fs,I9 Tryz.prog fn first cap F1 p f):
 aX Tryz.prog (.func 41) [vf,.func fn ⟨first⟩ ⟨cap⟩] [] [] (ae dS vf fs::F1) (λb:Bool=>.bool b) (λ_=>[]) (λ_=>[]) (λb=>b=fs.any p):=by
 refine aT _ (bz 41) λB w0=>?_;refine go ?_;refine aB (ag2 hl hp) (next:=λr hr=>?_);refine go ?_;refine aj (decide (0<=r)) (hv:=rfl) (hp:=?_);by_cases h:0<=r
 ·rw[eP h,hr.1 h]
 ·rw[fB h];cases e:fs.any p with
  |false=>rfl
  |true=>exact absurd (hr.2 e) h
theorem VN{d:Int}:gy Tryz.prog 40 [.int .i64 d] [] (.bool (decide (0<=d/\d<1024))):=by
 refine aT _ (bz 40) λB w0=>?_;refine go ?_;refine gG (λh1=>?_) (λh1=>?_)
 ·refine go ?_;exact aj () (hv:=by rw[fB (λh=>h1 h.1)];rfl) (hp:=trivial)
 refine go ?_;refine aj () (hv:=?_) (hp:=trivial);rw[show decide (0<=d/\d<1024)=decide (d<1024)from zA.2 ⟨λh=>h.2,λh=>⟨h1,h⟩⟩];rfl
noncomputable def zk(s:aK)(f:aU):Bool:= @decide (¬tO s f) (Classical.propDecidable _)
theorem NL{s:aK}{f:aU}:zk s f=true↔¬tO s f:=by
 unfold zk;exact @decide_eq_true_iff _ (Classical.propDecidable _)
theorem Bv{s:aK}{f:aU}(h:¬tO s f):true=zk s f:=(NL.2 h).symm
theorem ag3{b:Nat}{s:aK}{v1 v2 v3 v4:Value}{f:aU}:I9 Tryz.prog (.func 39) [] [ptr' b] [bW b 0 (jD s v1 v2 v3 v4)] (zk s) f:=by
 intro v;refine aT _ (bz 39) λB w0=>?_;refine eY (E:=ah) (v:=v) (xs:=f.g) (by simp) λa c e=>?_;subst e;refine go ?_;intro b2;refine go ?_;refine gG (λh1=>?_) (λh1=>?_)
 rotate_left
 ·refine go ?_;exact aj true (hv:=rfl) (hp:=Bv λk=>by have:=k.p0;omega)
 refine go ?_;refine gG (λh2=>?_) (λh2=>?_)
 rotate_left
 ·refine go ?_;exact aj true (hv:=rfl) (hp:=Bv λk=>by have:=k.p1;omega)
 refine go ?_;refine gG (λh3=>?_) (λh3=>?_)
 rotate_left
 ·refine go ?_;exact aj true (hv:=rfl) (hp:=Bv λk=>by have:=k.k1;omega)
 refine go ?_;refine gG (λh4=>?_) (λh4=>?_)
 rotate_left
 ·refine go ?_;exact aj true (hv:=rfl) (hp:=Bv λk=>by have:=k.k3;omega)
 refine go ?_;refine aB (VN (d:=f.d)) (next:=λ_ _=>?_);refine go ?_;refine aj (!decide (0<=f.d/\f.d<1024)) (hv:=rfl) (hp:=?_);by_cases h5:0<=f.d/\f.d<1024
 ·rw[eP h5];cases e:zk s f with
  |false=>rfl
  |true=>exact absurd ⟨by omega,by omega,by omega,by omega,h5.1,h5.2⟩ (NL.1 e)
 ·rw[fB h5];exact Bv λk=>h5 ⟨k.d0,k.d1⟩
theorem VO{s:aK}{fs:List aU}:fs.any (zk s)=true↔¬∀f∈fs,tO s f:=by
 constructor
 ·intro h k;obtain⟨f,h1,h2⟩:=sw.1 h;exact NL.1 h2 (k f h1)
 ·intro h;apply Classical.byContradiction;intro k;refine h λf hf=>?_;apply Classical.byContradiction;intro h2;exact k (sw.2 ⟨f,hf,(Bv h2).symm⟩)
theorem ag4{b1 b2:Nat}{vf:Value}{fs:List aU}{fl:List Bool}{i:Nat}{f:aU}(hf:fs[i]? =some f)(hp0:0<=f.p)(hp1:f.p<8)(h8:fl.length=8)(hl:fs.length<=16):
 aX Tryz.prog (.func 42) [.int .i64 (i:Int)] [ptr' b1,ptr' b2] [pt b1 (.cells (fl.map .bool))] [bW b2 0 [vf],ae dS vf fs] (λ_:Unit=>.tuple ⟨[]⟩) (λ_=>[pt b1 (.cells ((fl.set f.p.toNat true).map .bool))]) (λ_=>[]) (λ_=>True):=by
 have hi:=(dU.1 hf).1;obtain⟨n,hn⟩:=wE hp0;refine aT _ (bz 42) λB w0=>?_;refine go ?_;refine cZ dS (k:=i) (next:=λ_ _ x (y:Value) hx=>?_);cases hf.symm.trans hx;refine go ?_;refine jk (o:=0+f.p.toNat*1) (cs:=fl.map .bool) (cs':=(fl.set f.p.toNat true).map .bool) (v:=.bool true) (by rw[bG,fV,lS]) (by rw[bI];omega) ?_;refine go ?_;exact aj () (hv:=rfl) (hp:=trivial)
def qF(fs:List aU)(a b:Int)(i:Nat):Bool:=decide ((fs.getD i dF).k≠3)&&(!decide ((fs.getD i dF).d<=a)&&decide ((fs.getD i dF).d<=b))
def iM(fs:List aU)(a b:Int)(n:Nat):List Nat:=(List.range n).filter (qF fs a b)
theorem Ej(fs:List aU)(a b:Int)(n:Nat):iM fs a b (n+1)=if qF fs a b n then iM fs a b n++[n]else iM fs a b n:=by
 unfold iM;rw[List.range_succ,List.filter_append];by_cases h:qF fs a b n
 ·rw[if_pos h,List.filter_cons_of_pos h];rfl
 ·rw[if_neg h,List.filter_cons_of_neg h];simp
theorem ag5(fs:List aU)(a b:Int){n:Nat}(hn:n<fs.length)(h:qF fs a b n=true):iM fs a b fs.length=iM fs a b n++n::(iM fs a b fs.length).drop ((iM fs a b n).length+1):=by
 have hp:∀m,∃r,iM fs a b (n+1+m)=iM fs a b (n+1)++r:=by
  intro m;induction m with
  |zero=>exact⟨[],by simp⟩
  |succ m ih=>
   obtain⟨r,hr⟩:=ih;rw[show n+1+(m+1)=(n+1+m)+1 by omega,Ej,hr];split
   ·exact⟨r++[n+1+m],by simp⟩
   ·exact⟨r,rfl⟩
 obtain⟨r,hr⟩:=hp (fs.length - (n+1));rw[show n+1+(fs.length - (n+1))=fs.length by omega,Ej,if_pos h]at hr;rw[hr,ig,List.singleton_append,List.drop_append,uV (by omega),show(iM fs a b n).length+1 - (iM fs a b n).length=1 by omega];rfl
theorem ag6{vf:Value}{fs:List aU}{a b:Int}:aX Tryz.prog (.func 43) [vf,.int .i64 a,.int .i64 b] [] [] [ae dS vf fs] (λy:Nat×Nat×Nat=>.func (.func 66) #[] #[ptr' y.1,ptr' y.2.1,ptr' y.2.2]) (λ_=>[]) (λy=>[bW y.1 0 [vf],bW y.2.1 0 [.int .i64 a],bW y.2.2 0 [.int .i64 b]]) (λ_=>True):=by
 refine aT _ (bz 43) λB w0=>?_;refine eY (E:=dS) (v:=vf) (xs:=fs) (by simp) λav cv e=>?_;subst e;refine go ?_;intro b1 b2 b3;refine go ?_;refine bP (fQ (b:=b1)) (h:=?_);refine bP (fQ (b:=b2)) (h:=?_);refine bP (fQ (b:=b3)) (h:=?_);exact aj (b1,b2,b3) (hv:=rfl) (hp:=trivial)
theorem ag7{b1 b2 b3:Nat}{vf:Value}{fs:List aU}{a b:Int}(hl:fs.length<=16):
 GY Tryz.prog (λi:Nat=>[.int .i64 (i:Int)]) (.func 66) [] [ptr' b1,ptr' b2,ptr' b3] [bW b1 0 [vf],bW b2 0 [.int .i64 a],bW b3 0 [.int .i64 b],ae dS vf fs] (λxs=>xs=iM fs a b fs.length):=by
 intro S inv ok step s0 xy y1 y2 F' h0 hok hy;rw[fE,fE,fE,fE,dI];refine aT _ (bz 66) λB w0=>?_;refine go ?_;refine bR (λy:Nat×S=>fs.length - y.1) (λy=>[(9,.int .i64 (y.1:Int))]) (λy=>inv y.2) (λ_=>[]) (λy=>y.1<=fs.length/\ok (iM fs a b y.1) y.2/\∀rest,gz step s0 (iM fs a b y.1++rest)=gz step y.2 rest) (0,s0) ⟨cu _,h0,λ_=>rfl⟩ (body:=?_);rintro⟨k,s⟩ ⟨hk,hos,hrun⟩;dsimp only at hk hos hrun⊢;refine go ?_;refine aC rfl (λh1=>?_) (λh1=>?_)
 ·refine go ?_;refine cZ dS (k:=k) (next:=λ_ _ x (y:Value) hx=>?_);have hg:fs.getD k dF=x:=by rw[iA,hx];rfl
  refine eY (E:=ah) (v:=y) (xs:=x.g) (by simp) λag cg eg=>?_;subst eg;have ag8:qF fs a b k=false->iM fs a b (k+1)=iM fs a b k:=λh=>by rw[Ej,if_neg (by rw[h];simp)]
  have hdo:qF fs a b k=false->k+1<=fs.length/\ok (iM fs a b (k+1)) s/\∀rest,gz step s0 (iM fs a b (k+1)++rest)=gz step s rest:=λh=>by rw[ag8 h];exact⟨by omega,hos,hrun⟩
  refine go ?_;intro b6;refine go ?_;refine gG (λh2=>?_) (λh2=>?_)
  ·refine go ?_;exact aL (k+1,s) (by show fs.length - (k+1)<fs.length - k;omega) (hdo (by unfold qF;rw[hg,fB h2];rfl))
  refine go ?_;refine gG (λh3=>?_) (λh3=>?_)
  ·refine go ?_;exact aL (k+1,s) (by show fs.length - (k+1)<fs.length - k;omega) (hdo (by unfold qF;rw[hg,eP (by omega:x.d<=a)];simp))
  refine go ?_;refine gG (λh4=>?_) (λh4=>?_)
  ·refine go ?_;exact aL (k+1,s) (by show fs.length - (k+1)<fs.length - k;omega) (hdo (by unfold qF;rw[hg,fB h4];simp))
  have zi:qF fs a b k=true:=by unfold qF;rw[hg,eP h2,fB (by omega:¬x.d<=a),eP h4];rfl
  have hX:=(ag5 fs a b (by omega) zi).symm;have qD:=hy _ s _ _ hos hX;refine go ?_;refine aB qD (next:=λ_ _=>?_);cases hst:(step s k).2 with
  |true=>
   have hs1:step s k=((step s k).1,true):=Prod.ext rfl hst;refine go ?_;refine aL (k+1,(step s k).1) (by show fs.length - (k+1)<fs.length - k;omega) ⟨by show k+1<=_;omega,?_,λrest=>?_⟩
   ·show ok (iM fs a b (k+1)) _;rw[Ej,if_pos zi];exact hok _ s _ _ hos hX hst
   ·show gz step s0 (iM fs a b (k+1)++rest)=_;rw[Ej,if_pos zi,ig,hrun];show gz step s (k::rest)=_;rw[gz,hs1]
  |false=>
   have hs1:step s k=((step s k).1,false):=Prod.ext rfl hst;have hr:=hrun (k::(iM fs a b fs.length).drop ((iM fs a b k).length+1));rw[gz,hs1,hX]at hr;dsimp only at hr;refine go ?_;exact aj (iM fs a b fs.length) (hv:=rfl) (hp:=rfl) (hk:=by rw[hr];exact aI.self _ _)
 have hke:k=fs.length:=by omega
 subst hke;have hr:=hrun [];rw[fU]at hr;refine go ?_;exact aj (iM fs a b fs.length) (hv:=rfl) (hp:=rfl) (hk:=by rw[hr];exact aI.all _)
