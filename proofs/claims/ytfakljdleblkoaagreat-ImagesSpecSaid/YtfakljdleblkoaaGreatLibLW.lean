/-
  Part LibLW.
-/
import Derived.Test.YtfakljdleblkoaaGreatShelfS
import Derived.Test.YtfakljdleblkoaaGreatIdealPW
import Derived.Test.YtfakljdleblkoaaGreatLibIW
set_option linter.all false
set_option maxRecDepth 10000
set_option maxHeartbeats 4000000
namespace Go.Proofs.YtfakljdleblkoaaGreat
open Go.Ideal Kd Canon Go.Sort
theorem al6:aju Tryz.prog 75 3:=λα _ enc cf g cb blk off cap d w hk h1 hO eg hcmp hH hblk hsz=>AnyQ.slices_SortFunc Tryz.laysF6 3 Tryz.isAgg60 Tryz.sizeOf60 enc hk h1 cf hO g cb blk off cap d w eg hcmp hH hblk hsz
theorem al7:ajv Tryz.prog 75:=λp cap fv w=>AnyF.slices_SortFunc_none Tryz.laysF6 p cap fv w
variable{α:Type}
theorem al8{c:α->α->Int}(h:LU c):SWO (ltOf c):=by
 have hz:=h.zero;have hn:=h.neg;have ht:=h.trans;refine⟨λx=>?_,λx y z h1 h2=>?_,λx y z h1 h2=>?_⟩
 ·have:=(hz x x).2 rfl;exact aS vj
 ·exact eY (ht x y z (gQ h1) (gQ h2))
 ·have h1:¬c x y<0:=mV h1;have h2:¬c y z<0:=mV h2;refine aS λh3=>?_;by_cases e1:c x y=0
  ·rw[(hz x y).1 e1]at h3;exact h2 h3
  by_cases e2:c y z=0
  ·rw[<- (hz y z).1 e2]at h3;exact h1 h3
  have h4:=(hn z y).2 vj;have h5:=(hn y x).2 vj;have h6:=ht z y x h4 h5;have h7:=(hn z x).1 h6;omega
variable{va vb:Value}{a b:Clue}
theorem al9(ha:a.values.length<=1000000)(hb:b.values.length<=1000000):dL Tryz.prog 76 [aeQ a va,aeQ b vb] [ai ae va a.values,ai ae vb b.values] (.int .i64 (D6 a b)):=by
 refine aH _ (aN 76) λB w0=>?_;refine go ?_;intro b2 b3;refine go ?_;refine ax (ajV (a:=a) (b:=b) (va:=va) (vb:=vb)) (next:=λ_ _=>?_);refine go ?_;refine ax (alY (xs:=a.values) (ys:=b.values) ha hb) (next:=λ_ _=>?_);refine go ?_;intro b15;refine bi (A:=pt b15 (.cells [.int .i64 (ja a b),.int .i64 (jP j3 a.values b.values)])) (fs:=[ai ae (.slice (some ⟨b15,0,some 0⟩) 2 2) [ja a b,jP j3 a.values b.values]]) (D7 (b:=b15) (f:=0) (c:=2) (xs:=[ja a b,jP j3 a.values b.values])) (h:=?_);refine go ?_;refine ax (akx (xs:=[ja a b,jP j3 a.values b.values]) vm) (next:=λ_ _=>?_);refine go ?_;refine ah () (hv:=?_) (hp:=trivial);rw[aaK,<- ac9];simp only[Ci];by_cases h1:ja a b=0
 ·by_cases h2:jP j3 a.values b.values=0
  ·simp[h1,h2];rfl
  ·simp[h1,h2];rfl
 ·simp[h1];rfl
variable{xs:List Clue}
theorem ama{a:Option Addr}(hlen:xs.length<4611686018427387904)(hv:∀x∈xs,x.values.length<=1000000):
 aU Tryz.prog (.func 75) [.slice a xs.length xs.length,.func (.func 76) ⟨[]⟩ ⟨[]⟩] [] [ap aaH (.slice a xs.length xs.length) xs] [] (λ_:List Clue=>.tuple ⟨[]⟩) (λys=>[ap aaH (.slice a xs.length xs.length) ys]) (λ_=>[]) (λys=>ys.Perm xs/\ys.Pairwise λx y=>¬D6 y x<0):=by
 refine alg vA al6 al7 Tryz.func75 rfl wj Tryz.func76 rfl wj rfl wj (al8 akh) (λx hx y hy u v=>?_) hlen;exact al9 (hv x hx) (hv y hy)
open Go.Ideal Kd Canon
theorem akz:dL Tryz.prog 78 [aeQ a va,aeQ b vb] [] (.bool (aeR a b)):=by
 refine aH _ (aN 78) λB w0=>?_;refine go ?_;intro b2 b3;refine go ?_;refine ax (ajV (a:=a) (b:=b) (va:=va) (vb:=vb)) (next:=λ_ _=>?_);refine go ?_;exact ah () (hv:=rfl) (hp:=trivial)
abbrev CV:=Clue×aaH.Y
abbrev afo(p q:CV):Bool:=aeR p.1 q.1
theorem amb{β:Type}{eq:β->β->Bool}:∀{l:List β},l.length<2->afh eq l=l
 |[],_=>rfl
 |[_],_=>rfl
 |_::_::_,h=>by simp at h;omega
theorem ai5{l:List α}{k:Nat}{x:α}(h:l[k]? =some x):l.take (k+1)=l.take k++[x]:=by
 rw[nE,h];rfl
theorem amc{b f m:Nat}(hl:xs.length<=1000000):aU Tryz.prog (.func 77) [.slice (some ⟨b,0,some f⟩) m m,.func (.func 78) ⟨[]⟩ ⟨[]⟩] [] [ap aaH (.slice (some ⟨b,0,some f⟩) m m) xs] [] (λv:Value=>v) (λ_=>[]) (λv=>[ai aaH v (afh aeR xs)]) (λ_=>True):=by
 refine aH _ (aN 77) λB w0=>?_;refine aln aaH λaF hxy hm hf=>?_;have hgn:aaH.n=3:=rfl;have hlen:aF.length=xs.length:=by rw[<- hxy,cz]
 subst hm;rw[<- hlen];have hcm:(afh afo aF).map (·.1)=afh aeR xs:=by rw[<- hxy];exact alz (·.1) (λ_ _=>rfl) aF
 rw[<- hcm];have hall:∀{F:List aK} {zs:List CV},wZ aaH aF∈F->(∀p∈zs,p∈aF)->∀w,(∀f∈F,f.p w)->(wZ aaH zs).p w:=λhF hz w h p hp f hf=>h _ hF p (hz p hp) f hf;refine go ?_;refine az rfl (λh1=>?_) (λh1=>?_)
 ·rw[amb (eq:=afo) (show aF.length<2 by omega)];exact gO
 refine go ?_;refine aW (λk=>aF.length - k) (λk:Nat=>[(5,.int .i64 (k:Int))]) (λ_=>[]) (λ_=>[]) (λk=>1<=k/\k<=aF.length/\∀p,aF[k - 1]? =some p->afh afo aF=aF.take k++cgo afo p (aF.drop k)) 1 ⟨vj,vj,λp hp=>?_⟩ (body:=?_)
 ·cases aF with
  |nil=>cases hp
  |cons x l=>cases hp;rfl
 rintro k ⟨hk1,hkn,hck⟩;refine go ?_;refine az rfl (λh2=>?_) (λh2=>?_)
 rotate_left
 ·have hk:k=aF.length:=by omega
  obtain⟨p,hp⟩:∃p,aF[k - 1]? =some p:=⟨_,bW vj⟩
  have hck:=hck p hp;rw[hk,ajs,bJ,cgo,iI]at hck;rw[hck];exact gO
 have hkl:k<aF.length:=vj
 obtain⟨p,hp⟩:∃p,aF[k - 1]? =some p:=⟨_,bW vj⟩
 obtain⟨y,hy⟩:∃y,aF[k]? =some y:=⟨_,bW hkl⟩
 have hck:=hck p hp;rw[drop_cons hy,cgo]at hck;refine go ?_;refine aia aaH (o:=0+k*3) hy An ?_;refine go ?_;refine aia aaH (o:=0+((k:Int) - 1).toNat*3) hp An ?_;refine go ?_;refine ax (akz (a:=y.1) (b:=p.1) (va:=y.2) (vb:=p.2)) (next:=λ_ _=>?_);refine go ?_;cases he:aeR y.1 p.1 with
 |false=>
  refine go ?_;refine aM (k+1) (by show aF.length - (k+1)<aF.length - k;omega) ⟨vj,vj,λp' hp'=>?_⟩;rw[Nat.add_sub_cancel,hy]at hp';cases hp';rw[hck,ai5 hy,show afo y p=false from he,cond_false,fU];rfl
 |true=>
  rw[show afo y p=true from he,cond_true]at hck;refine go ?_;refine(fq rfl rfl (ajQ (lo:=k) (hi:=aF.length) rfl Cd vj (.inr ⟨_,rfl,rfl⟩) (.inl ⟨rfl,rfl⟩) vj (bV _))).h ?_;refine go ?_;refine aW (λx:Nat×Nat×List CV=>aF.length - x.2.1) (λx=>[(7,.int .i64 (x.2.1:Int)),(5,.int .i64 (x.1:Int))]) (λx=>[pt b (.cells (fZ aaH x.2.2))]) (λ_=>[])
   (λx=>1<=x.2.1/\k+x.2.1<=aF.length/\k<=x.1/\x.1+1<=k+x.2.1/\x.2.2.length=aF.length/\(∀j,k+x.2.1 - 1<=j->x.2.2[j]? =aF[j]?)/\(∀p,aF[k+x.2.1 - 1]? =some p->afh afo aF=x.2.2.take x.1++cgo afo p (aF.drop (k+x.2.1)))/\∀q∈x.2.2,q∈aF)
   (k,1,aF) ⟨bV _,by dsimp only;omega,bV _,bV _,rfl,λ_ _=>rfl,λp' hp'=>?_,λq hq=>hq⟩ (body:=?_)
  ·rw[show k+1 - 1=k by omega,hy]at hp';cases hp';exact hck
  rintro⟨kk,k2,zs⟩ ⟨i1,i2,i3,i4,i5,i6,i7,i8⟩;dsimp only at i1 i2 i3 i4 i5 i6 i7 i8⊢;obtain⟨p2,hp2⟩:∃p,aF[k+k2 - 1]? =some p:=⟨_,bW vj⟩
  have i7:=i7 p2 hp2;refine go ?_;refine az rfl (λh3=>?_) (λh3=>?_)
  rotate_left
  ·have hk2:k+k2=aF.length:=by omega
   rw[hk2,ajs,cgo,iI]at i7;have hkk:(zs.take kk).length=kk:=by rw[ig];omega
   refine go ?_;refine(fq rfl rfl (ajQ (lo:=kk) (hi:=aF.length) rfl Cd vj (.inr ⟨_,rfl,rfl⟩) (.inl ⟨rfl,rfl⟩) vj (bV _))).h ?_;have hov:jK (fZ aaH zs) (0+kk*3) (zeros [.int .i64 (.ofNat 0),.int .i64 (.ofNat 0),.slice none 0 0] (aF.length - kk))=some (fZ aaH (zs.take kk)++zeros [.int .i64 (.ofNat 0),.int .i64 (.ofNat 0),.slice none 0 0] (aF.length - kk)):=by
    have hz:=zeros_length [.int .i64 (.ofNat 0),.int .i64 (.ofNat 0),.slice none 0 0] (aF.length - kk);have e1:fZ aaH zs=fZ aaH (zs.take kk)++fZ aaH (zs.drop kk):=by rw[<- ajP,uU]
    have e2:(fZ aaH (zs.take kk)).length=0+kk*3:=by rw[Ew,hkk,hgn];omega
    have e3:(fZ aaH (zs.drop kk)).length=(aF.length - kk)*3:=by rw[Ew,wm,hgn,i5]
    have hz3:(zeros [.int .i64 (.ofNat 0),.int .i64 (.ofNat 0),.slice none 0 0] (aF.length - kk)).length=(aF.length - kk)*3:=by rw[hz];rfl
    rw[e1,<- e2,akk (by rw[hz3,e3];exact bV _),List.drop_of_length_le (by rw[hz3,e3];exact bV _),iI]
   refine alm hov vj ?_;refine go ?_;refine(fq rfl rfl (ajQ (lo:=0) (hi:=kk) rfl Cd vj (.inl ⟨rfl,rfl⟩) (.inr ⟨_,rfl,rfl⟩) vj vj)).h ?_;rw[FI,fC,CR,CR];refine go ?_;refine ajR aaH (aF:=zs.take kk) (c:=aF.length) hf vj ?_ (hall vm λq hq=>i8 q (OH hq));rw[i7,hkk];exact ah (.slice (some ⟨b,0,some f⟩) kk aF.length) (hv:=rfl) (hp:=trivial)
  have hlt:k+k2<aF.length:=vj
  obtain⟨y2,hy2⟩:∃y,aF[k+k2]? =some y:=⟨_,bW hlt⟩
  have hzy:zs[k+k2]? =some y2:=by rw[i6 _ vj,hy2]
  have hzp:zs[k+k2 - 1]? =some p2:=by rw[i6 _ vj,hp2]
  rw[drop_cons hy2,cgo]at i7;refine go ?_;refine aia aaH (o:=0+k*3+k2*3) hzy An ?_;refine go ?_;refine aia aaH (o:=0+k*3+((k2:Int) - 1).toNat*3) hzp An ?_;refine go ?_;refine ax (akz (a:=y2.1) (b:=p2.1) (va:=y2.2) (vb:=p2.2)) (next:=λ_ _=>?_);refine go ?_;cases he2:aeR y2.1 p2.1 with
  |true=>
   rw[show afo y2 p2=true from he2,cond_true]at i7;refine go ?_;refine aM (kk,k2+1,zs) C4 ⟨by dsimp only;omega,by dsimp only;omega,i3,by dsimp only;omega,i5,λj hj=>i6 j (by dsimp only at hj;omega),λp' hp'=>?_,i8⟩;rw[show k+(k2+1) - 1=k+k2 by omega,hy2]at hp';cases hp';exact i7
  |false=>
   rw[show afo y2 p2=false from he2,cond_false]at i7;refine go ?_;refine aia aaH (o:=0+k*3+k2*3) hzy An ?_;refine go ?_;refine alj aaH (aF:=zs) (k:=kk) (o:=0+kk*3) y2 vj An ?_;refine go ?_;have htk:(zs.set kk y2).take (kk+1)=zs.take kk++[y2]:=by
    rw[ai5 (x:=y2) (by rw[List.getElem?_set_self vj]),List.take_set_of_le (bV _)]
   refine aM (kk+1,k2+1,zs.set kk y2) C4 ⟨by dsimp only;omega,by dsimp only;omega,by dsimp only;omega,by dsimp only;omega,by rw[uX];exact i5,λj hj=>?_,λp' hp'=>?_,λq hq=>?_⟩
   ·dsimp only at hj⊢;rw[List.getElem?_set_ne vj];exact i6 j vj
   ·rw[show k+(k2+1) - 1=k+k2 by omega,hy2]at hp';cases hp';rw[htk,i7,fU];rfl
   ·rcases List.mem_or_eq_of_mem_set hq with h|h
    ·exact i8 q h
    ·rw[h];exact aP hy2
def ame(a:Option Addr)(n:Nat):Prop:=(a=none/\n=0)\/∃b f,a=some ⟨b,0,some f⟩
variable{v:Value}
theorem amf(hl:xs.length<=1000000):aU Tryz.prog (.func 74) [v] [] [] [ai aaH v xs] (λa:Option Addr=>.slice a xs.length xs.length) (λa=>[ap aaH (.slice a xs.length xs.length) xs]) (λ_=>[]) (λa=>ame a xs.length):=by
 refine aH _ (aN 74) λB w0=>?_;refine Ig aaH v (xs:=xs) λaF hxy=>?_;have hlen:aF.length=xs.length:=by rw[<- hxy,cz]
 refine Sc (aF:=aF) (v:=v) (E:=aaH) ?_;refine acM (v:=v) (aF:=aF) aaH (λe c ev=>?_) (λe i o f c ev=>?_) (λhne i o f c ev=>?_)
 ·subst e ev;have hx:xs=[]:=by rw[<- hxy];rfl
  subst hx;simp only[CQ];refine go ?_;refine(fq rfl rfl (Ex (e:=60) vA rfl)).h ?_;refine go ?_;refine gH aaH ?_;exact ah none (hv:=rfl) (hp:=.inl ⟨rfl,rfl⟩)
 ·subst e ev;have hx:xs=[]:=by rw[<- hxy];rfl
  subst hx;simp only[CQ];refine go ?_;refine(fq rfl rfl (yK (e:=60) vA rfl)).h ?_;refine go ?_;intro b;refine go ?_;refine Ii (b:=b) ?_;refine go ?_;refine LZ aaH ay.here ?_;exact ah (some ⟨b,0,some 0⟩) (hv:=rfl) (hp:=.inr ⟨b,0,rfl⟩)
 ·subst ev;refine go ?_;refine(fq rfl rfl (yK (e:=60) vA rfl)).h ?_;refine go ?_;intro b;refine go ?_;refine Ij (b:=b) aaH aF hne vj (λb'=>?_);refine go ?_;refine sQ (b:=b') (m:=aF.length) (f:=aaH.n) aaH (aF:=aF) rfl (.inr rfl) ?_ (hk:=ay.here);refine SL (aF:=aF) hne ?_ (λw h=>h _ vm);rw[hxy,hlen];exact ah (some ⟨b',0,some aaH.n⟩) (hv:=rfl) (hp:=.inr ⟨b',_,rfl⟩)
theorem amg:aU Tryz.prog (.func 77) [.slice none 0 0,.func (.func 78) ⟨[]⟩ ⟨[]⟩] [] [] [] (λ_:Unit=>.slice none 0 0) (λ_=>[]) (λ_=>[]) (λ_=>True):=by
 refine aH _ (aN 77) λB w0=>?_;refine go ?_;exact ah () (hv:=rfl) (hp:=trivial)
theorem amh(hl:xs.length<=1000000)(hv:∀x∈xs,x.values.length<=1000000):aU Tryz.prog (.func 46) [v] [] [] [ai aaH v xs] (λy:Value×List Clue=>.agg ⟨[y.1]⟩) (λ_=>[]) (λy=>[ai aaH y.1 y.2]) (λy=>Cn xs y.2):=by
 refine aH _ (aN 46) λB w0=>?_;refine go ?_;intro b2;refine go ?_;refine ax (amf (xs:=xs) hl) (next:=λa ha=>?_);refine go ?_;refine ax (ama (xs:=xs) (a:=a) vj hv) (next:=λys hy=>?_);have hlen:ys.length=xs.length:=hy.1.length_eq;have hok:=alA hy.1 hy.2;refine go ?_;rcases ha with⟨rfl,h0⟩|⟨b,f,rfl⟩
 ·have hx:xs=[]:=jw.1 h0;subst hx;have hys:ys=[]:=jw.1 (hlen.trans h0);subst hys;refine ax amg (next:=λ_ _=>?_);refine go ?_;refine fK (ai aaH (.slice none 0 0) []) (λw hw=>.inl ⟨rfl,none,0,rfl,trivial⟩) ?_;exact ah (.slice none 0 0,[]) (hv:=rfl) (hp:=hok)
 ·refine ax (amc (xs:=ys) (b:=b) (f:=f) (m:=xs.length) vj) (next:=λvr _=>?_);refine aT (E:=aaH) (v:=vr) (xs:=afh aeR ys) vm λar1 cr er=>?_;subst er;refine go ?_;exact ah (.slice ar1 (afh aeR ys).length cr,afh aeR ys) (hv:=rfl) (hp:=hok)
theorem ajz{xs ys:List Int}(hal:xs.length<=1000000)(hbl:ys.length<=1000000):
 dL Tryz.prog 84 [va,vb] [ai ae va xs,ai ae vb ys] (.int .i64 (jP j3 xs ys)):=by
 refine aH _ (aN 84) λB w0=>?_;refine go ?_;refine aW (λk=>xs.length - k) (λk:Nat=>[(5,.int .i64 (k:Int))]) (λ_=>[]) (λ_=>[]) (λk=>k<=xs.length/\k<=ys.length/\jP j3 xs ys=jP j3 (xs.drop k) (ys.drop k)) 0 ⟨vj,vj,rfl⟩ (body:=?_);rintro k ⟨hkx,hky,ae0⟩;refine go ?_;refine gG (λh1=>?_) (λh1=>?_)
 ·exact dl
 refine go ?_;refine az rfl (λh2=>?_) (λh2=>?_)
 rotate_left
 ·exact dl
 refine go ?_;intro _ _ x hx _ _ y hy;refine az rfl (λh3=>?_) (λh3=>?_)
 ·refine go ?_;refine ah () (hv:=?_) (hp:=trivial);rw[ae0,drop_cons hx,drop_cons hy,jP,j3,if_pos h3];rfl
 refine go ?_;intro _ _ x' hx' _ _ y' hy';cases hx.symm.trans hx';cases hy.symm.trans hy';refine az rfl (λh4=>?_) (λh4=>?_)
 ·refine go ?_;refine ah () (hv:=?_) (hp:=trivial);rw[ae0,drop_cons hx,drop_cons hy,jP,j3,if_neg h3,if_pos h4];rfl
 refine go ?_;refine aM (k+1) vj ⟨vj,vj,?_⟩;rw[ae0,drop_cons hx,drop_cons hy,jP,j3,if_neg h3,if_neg h4];rfl
theorem akB{b:Nat}{x y:Int}:uz (pt b (.cells [.int .i64 x,.int .i64 y])) [ai ae (.slice (some ⟨b,0,some 0⟩) 2 2) [x,y]]:=D7 (xs:=[x,y])
def short(l:List Clue):Prop:=∀g∈l,g.values.length<=1000000
theorem ahw:dL Tryz.prog 83 [aeQ a va,aeQ b vb] [] (.int .i64 (jP j3 [a.aQ,a.at_] [b.aQ,b.at_])):=by
 refine aH _ (aN 83) λB w0=>?_;refine go ?_;intro b1 b2 b3 b4;refine bi (akB) (h:=?_);refine bi (akB) (h:=?_);refine ax (ajz (xs:=[a.aQ,a.at_]) (ys:=[b.aQ,b.at_]) vm vm) (next:=λ_ _=>?_);refine go ?_;exact ah () (hv:=rfl) (hp:=trivial)
theorem ami(hal:a.values.length<=1000000)(hbl:b.values.length<=1000000):
 dL Tryz.prog 50 [aeQ a va,aeQ b vb] [ai ae va a.values,ai ae vb b.values] (.bool (decide (a=b))):=by
 refine aH _ (aN 50) λB w0=>?_;refine go ?_;intro b1 b2;refine ax (ahw (a:=a) (b:=b)) (next:=λ_ _=>?_);refine go ?_;have hz:=(Rb Ra).zero [a.aQ,a.at_] [b.aQ,b.at_];refine gG (λh1=>?_) (λh1=>?_)
 ·refine go ?_;refine ah () (hv:=?_) (hp:=trivial);rw[aS (λe=>h1 (hz.2 xT))];rfl
 refine go ?_;refine ax (ajz hal hbl) (next:=λ_ _=>?_);refine go ?_;refine ah () (hv:=?_) (hp:=trivial);have e1:=hz.1 h1;simp only[AZ,xR]at e1;have:decide (jP j3 a.values b.values=0)=decide (a=b):=by
  rw[nS,(Rb Ra).zero];obtain⟨c,p,l⟩:=a;obtain⟨d,q,m⟩:=b;simp only[Clue.mk.injEq]at e1⊢;exact⟨λe=>⟨e1.1,e1.2,e⟩,λe=>e.2.2⟩
 rw[<- this];rfl
theorem ajA{ys:List Clue}(hal:xs.length<=1000000)(hx:short xs)(hy:short ys):
 dL Tryz.prog 26 [.agg ⟨[va]⟩,.agg ⟨[vb]⟩] [ai aaH va xs,ai aaH vb ys] (.bool (decide (xs=ys))):=by
 refine aH _ (aN 26) λB w0=>?_;refine go ?_;intro b2 b3;refine az rfl (λh1=>?_) (λh1=>?_)
 ·exact cW
 have hlen:xs.length=ys.length:=vj
 refine go ?_;refine aW (λk=>xs.length - k) (λk:Nat=>[(5,.int .i64 (k:Int))]) (λ_=>[]) (λ_=>[]) (λk=>k<=xs.length/\∀j,j<k->xs[j]? =ys[j]?) 0 ⟨vj,λj hj=>by omega⟩ (body:=?_);rintro k ⟨hkx,hsame⟩;refine go ?_;refine az rfl (λh2=>?_) (λh2=>?_)
 ·refine go ?_;refine bq aaH (next:=λ_ _ x (vx:Value) hxk=>?_);refine go ?_;refine bq aaH (next:=λ_ _ y (vy:Value) hyk=>?_);refine go ?_;refine ax (ami (a:=x) (b:=y) (hx x (aP hxk)) (hy y (aP hyk))) (next:=λ_ _=>?_);refine go ?_;refine eO rfl (λh3=>?_) (λh3=>?_)
  ·refine go ?_;refine ah () (hv:=?_) (hp:=trivial);rw[aS (λe=>h3 (by rw[e,hyk]at hxk;cases hxk;rfl))];rfl
  refine go ?_;refine aM (k+1) vj ⟨vj,λj hj=>?_⟩;by_cases e:j=k
  ·subst e;rw[hxk,hyk,h3]
  ·exact hsame j vj
 refine go ?_;refine ah () (hv:=?_) (hp:=trivial);have:xs=ys:=by
  exact cU
 rw[eY this];rfl
def afm(l rs:List Clue)(i:Nat)(best:Int):Prop:=(best= -1/\∀x∈l.take i,opn rs x=false)\/∃(b:Nat) (y:Clue),best=(b:Int)/\l[b]? =some y/\opn rs y=true/\∀x∈l.take i,opn rs x=true->¬D6 x y<0
variable{l rs:List Clue}{x:Clue}{i:Nat}{best:Int}
theorem afm.skip(h:afm l rs i best)(hx:l[i]? =some x)(ho:opn rs x=false):afm l rs (i+1) best:=by
 have hm:∀z∈l.take (i+1),z∈l.take i\/z=x:=λz hz=>by
  rw[ai5 hx]at hz;rcases dW.1 hz with h|h
  ·exact .inl h
  ·exact .inr (bK.1 h)
 rcases h with⟨h1,h2⟩|⟨b,y,h1,h2,h3,h4⟩
 ·refine .inl ⟨h1,λz hz=>?_⟩;rcases hm z hz with h|h
  ·exact h2 z h
  ·rw[h];exact ho
 ·refine .inr ⟨b,y,h1,h2,h3,λz hz hoz=>?_⟩;rcases hm z hz with h|h
  ·exact h4 z h hoz
  ·rw[h,ho]at hoz;cases hoz
theorem afm.take(h:afm l rs i best)(hx:l[i]? =some x)(ho:opn rs x=true)(hb:best= -1\/∃(b:Nat) (y:Clue),best=(b:Int)/\l[b]? =some y/\D6 x y<0):afm l rs (i+1) (i:Int):=by
 have hO:=akh;refine .inr ⟨i,x,rfl,hx,ho,λz hz hoz hlt=>?_⟩;rw[ai5 hx]at hz;rcases dW.1 hz with hz|hz
 ·rcases h with⟨h1,h2⟩|⟨b,y,h1,h2,h3,h4⟩
  ·rw[h2 z hz]at hoz;cases hoz
  ·rcases hb with hb|⟨b',y',e1,e2,e3⟩
   ·omega
   ·have:b'=b:=by omega
    subst this;cases h2.symm.trans e2;exact h4 z hz hoz (hO.trans z x y hlt e3)
 ·rw[bK.1 hz]at hlt;have:=(hO.zero x x).2 rfl;omega
theorem afm.keep{b:Nat}{y:Clue}(h:afm l rs i (b:Int))(hx:l[i]? =some x)(hy:l[b]? =some y)(hn:¬D6 x y<0):afm l rs (i+1) (b:Int):=by
 rcases h with⟨h1,h2⟩|⟨b',y',h1,h2,h3,h4⟩
 ·omega
 ·have:b'=b:=by omega
  subst this;cases h2.symm.trans hy;refine .inr ⟨b',y,rfl,hy,h3,λz hz hoz=>?_⟩;rw[ai5 hx]at hz;rcases dW.1 hz with hz|hz
  ·exact h4 z hz hoz
  ·rw[bK.1 hz];exact hn
theorem amj(hl:xs.length<=1000000)(hv:∀x∈xs,x.values.length<=1000000):aU Tryz.prog (.func 49) [v] [] [] [ai aaH v xs] (λy:Value×List Clue=>.agg ⟨[y.1]⟩) (λ_=>[]) (λy=>[ai aaH y.1 y.2]) (λy=>Cn xs y.2):=by
 refine aH _ (aN 49) λB w0=>?_;refine aT (E:=aaH) (v:=v) (xs:=xs) vm λav cv ev1=>?_;subst ev1;refine go ?_;intro b2 b3;refine go ?_;refine gH aaH ?_;refine aW (λx:Nat×Value×List Clue=>xs.length - x.1) (λx=>[(4,.int .i64 (x.1:Int))]) (λx=>[pt b3 (.cells [x.2.1]),ap aaH x.2.1 x.2.2]) (λ_=>[]) (λx=>x.1<=xs.length/\Na xs x.2.2 x.1/\x.2.2.length=x.1) (0,.slice none 0 0,[]) ⟨bQ _,alB,rfl⟩ (body:=?_);rintro⟨n,vr,rs⟩ ⟨hn,hsel,hlen⟩;dsimp only at hn hsel hlen⊢;refine alo (E:=aaH) (v:=vr) (xs:=rs) λar1 hr1 _=>?_;subst hr1;refine go ?_;refine az rfl (λh1=>?_) (λh1=>?_)
 rotate_left
 ·have hnx:n=xs.length:=by omega
  subst hnx;refine go ?_;refine bi (A:=ap aaH (.slice ar1 rs.length rs.length) rs) (fs:=[ai aaH (.slice ar1 rs.length rs.length) rs]) fQ (h:=?_);exact ah (.slice ar1 rs.length rs.length,rs) (hv:=rfl) (hp:=hsel.full)
 refine go ?_;refine aW (λx:Nat×Int=>xs.length - x.1) (λx=>[(6,.int .i64 (x.1:Int)),(5,.int .i64 x.2)]) (λ_=>[]) (λ_=>[]) (λx=>x.1<=xs.length/\afm xs rs x.1 x.2) (0, -1) ⟨bQ _,.inl ⟨rfl,vm⟩⟩ (body:=?_);rintro⟨i,best⟩ ⟨hi,hb⟩;dsimp only at hi hb⊢;refine go ?_;refine az rfl (λh2=>?_) (λh2=>?_)
 rotate_left
 ·have hix:i=xs.length:=by omega
  rw[hix]at hb;unfold afm at hb;rw[bJ]at hb;refine go ?_;rcases hb with⟨rfl,hb⟩|⟨b,y,rfl,hy,ho,hb⟩
  ·refine go ?_;refine bi (A:=ap aaH (.slice ar1 rs.length rs.length) rs) (fs:=[ai aaH (.slice ar1 rs.length rs.length) rs]) fQ (h:=?_);exact ah (.slice ar1 rs.length rs.length,rs) (hv:=rfl) (hp:=hsel.stop hb)
  ·refine az rfl (λh3=>?_) (λh3=>?_)
   ·omega
   have hbl:=(bC.1 hy).1;refine go ?_;refine bq aaH (xs:=xs) (next:=λ_ _ y' (vy:Value) hy'=>?_);cases hy.symm.trans hy';refine go ?_;intro b90;refine go ?_;refine fw aaH (xs:=rs) y vy vj (λad=>?_);refine go ?_;refine aM (n+1,.slice ad (rs.length+1) (rs.length+1),rs++[y]) (by show xs.length - (n+1)<xs.length - n;omega) ⟨by dsimp only;omega,hsel.step (aP hy) ho hb,by dsimp only;rw[iE,hlen];rfl⟩
 have hil:i<xs.length:=vj
 refine go ?_;obtain⟨x,hx⟩:∃x,xs[i]? =some x:=⟨_,bW hil⟩
 refine gG (λh3=>?_) (λh3=>?_)
 ·have hr0:rs=[]:=jw.1 vj;have hox:opn rs x=true:=by rw[hr0];rfl
  exact bt
 ·obtain⟨z,hz⟩:∃z,rs[rs.length - 1]? =some z:=⟨_,bW vj⟩
  have hzl:rs.getLast? =some z:=by rw[List.getLast?_eq_getElem?];exact hz
  have hzo:opn rs x=decide (0<ja x z):=by unfold opn;rw[hzl]
  refine go ?_;refine bq aaH (xs:=xs) (next:=λ_ _ x0 (vx0:Value) hx0=>?_);cases hx.symm.trans hx0;refine go ?_;rw[show((rs.length:Nat):Int) - 1=((rs.length - 1:Nat):Int)by omega];refine alp aaH (xs:=rs) (rs.length - 1) z hz (λ_ _ (vz:Value)=>?_);rw[show∀F:List aK,aaH.fs z vz++F=ai ae vz z.values::F from λF=>rfl];refine go ?_;refine ax (ahw (a:=x) (b:=z) (va:=vx0) (vb:=vz)) (next:=λ_ _=>?_);rw[<- ac9];refine go ?_;refine az rfl (λh4=>?_) (λh4=>?_)
  ·refine go ?_;refine aM (i+1,best) (by show xs.length - (i+1)<xs.length - i;omega) ⟨by dsimp only;omega,hb.skip hx (by rw[hzo];exact aS vj)⟩
  have hox:opn rs x=true:=by rw[hzo];exact eY vj
  exact bt
