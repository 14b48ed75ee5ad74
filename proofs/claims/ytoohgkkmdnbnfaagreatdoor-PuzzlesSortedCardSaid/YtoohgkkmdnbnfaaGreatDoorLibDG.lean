/-
  Comparisons: cmp.Compare and slices.Compare of numbers.
-/
import Derived.Test.YtoohgkkmdnbnfaaGreatDoorProg
import Derived.Test.YtoohgkkmdnbnfaaGreatDoorPlainAG
import Derived.Test.YtoohgkkmdnbnfaaGreatDoorShelfS
import Derived.Test.YtoohgkkmdnbnfaaGreatDoorIdealPG
set_option linter.all false
set_option maxRecDepth 10000
set_option maxHeartbeats 1000000
namespace Go.Proofs.YtoohgkkmdnbnfaaGreatDoor
open Go.Ideal Canon
theorem FZ(x:Int):fV Tryz.prog 108 [.int .i64 x] [] (.bool false):=by
 refine dY _ (dP 108) λB w0=>?_;refine go ?_;refine bf () (hv:=?_) (hp:=trivial);simp[qA]
theorem PS(x y:Int):fV Tryz.prog 69 [.int .i64 x,.int .i64 y] [] (.int .i64 (aO x y)):=by
 refine dY _ (dP 69) λB w0=>?_;refine go ?_;refine bn (FZ x) (next:=λ_ _=>?_);refine go ?_;refine bn (FZ y) (next:=λ_ _=>?_);refine go ?_;refine bL rfl (λh1=>?_) (λh1=>?_)
 ·refine go ?_;refine bf () (hv:=?_) (hp:=trivial);rw[aO,if_pos h1];rfl
 refine go ?_;refine bL rfl (λh2=>?_) (λh2=>?_)
 ·refine go ?_;refine bf () (hv:=?_) (hp:=trivial);rw[aO,if_neg h1,if_pos h2];rfl
 refine go ?_;refine bf () (hv:=?_) (hp:=trivial);rw[aO,if_neg h1,if_neg h2];rfl
theorem drop_cons{α:Type}{xs:List α}{k:Nat}{x:α}(h:xs[k]? =some x):xs.drop k=x::xs.drop (k+1):=by
 obtain⟨hlt,he⟩:=bH.1 h;rw[x8 hlt,he]
theorem nN{xs ys:List Int}{k:Nat}(hx:k<=xs.length)(hy:k<=ys.length)(h:k=xs.length\/k=ys.length):
 aZ aO (xs.drop k) (ys.drop k)=if xs.length<ys.length then -1 else if ys.length<xs.length then 1 else 0:=by
 rcases h with h|h
 ·rw[show xs.drop k=[]from x9 (by omega)];by_cases e:xs.length<ys.length
  ·rw[if_pos e];have:k<ys.length:=by omega
   rw[x8 this];rfl
  ·rw[if_neg e,if_neg (by omega),show ys.drop k=[]from x9 (by omega)];rfl
 ·rw[show ys.drop k=[]from x9 (by omega)];by_cases e:ys.length<xs.length
  ·rw[if_neg (by omega),if_pos e];have:k<xs.length:=by omega
   rw[x8 this];rfl
  ·rw[if_neg (by omega),if_neg e,show xs.drop k=[]from x9 (by omega)];rfl
theorem PT{va vb:Value}{xs ys:List Int}(hal:xs.length<=1000000)(hbl:ys.length<=1000000):
 fV Tryz.prog 71 [va,vb] [bg fo va xs,bg fo vb ys] (.int .i64 (aZ aO xs ys)):=by
 refine dY _ (dP 71) λB w0=>?_;refine go ?_;refine iJ (λk=>xs.length - k) (λk:Nat=>[(11,.int .i64 (k:Int))]) (λ_=>[]) (λ_=>[]) (λk=>k<=xs.length/\k<=ys.length/\aZ aO xs ys=aZ aO (xs.drop k) (ys.drop k)) 0 ⟨by omega,by omega,rfl⟩ (body:=?_);rintro k ⟨hkx,mG,iB⟩;refine go ?_;refine bL rfl (λh1=>?_) (λh1=>?_)
 ·refine go ?_;intro _ _ x hx;refine bL rfl (λh2=>?_) (λh2=>?_)
  ·refine go ?_;refine bf () (hv:=?_) (hp:=trivial);rw[iB,drop_cons hx,show ys.drop k=[]from x9 (by omega)];rfl
  refine go ?_;intro _ _ y hy;refine bn (PS x y) (next:=λ_ _=>?_);refine go ?_;refine bL rfl (λh3=>?_) (λh3=>?_)
  ·refine go ?_;refine bf () (hv:=?_) (hp:=trivial);rw[iB,drop_cons hx,drop_cons hy,aZ,if_pos h3];rfl
  refine go ?_;refine dw (k+1) (by omega) ⟨by omega,by omega,?_⟩;rw[iB,drop_cons hx,drop_cons hy,aZ,if_neg (by simpa using h3)]
 refine go ?_;have hkm:k=xs.length:=by omega
 refine bL rfl (λh3=>?_) (λh3=>?_)
 ·refine go ?_;refine bf () (hv:=?_) (hp:=trivial);rw[iB,nN hkx mG (by omega),if_pos (by omega)];rfl
 refine go ?_;refine bf () (hv:=?_) (hp:=trivial);rw[iB,nN hkx mG (by omega),if_neg (by omega),if_neg (by omega)];rfl
set_option maxHeartbeats 4000000
open Go.Ideal Kd Canon
theorem F3(x:Int):fV Tryz.prog 108 [.int .i64 x] [] (.bool false):=by
 refine dY _ (dP 108) λB w0=>?_;refine go ?_;refine bf () (hv:=?_) (hp:=trivial);simp[qA]
theorem F4(x y:Int):fV Tryz.prog 69 [.int .i64 x,.int .i64 y] [] (.int .i64 (aO x y)):=by
 refine dY _ (dP 69) λB w0=>?_;refine go ?_;refine bn (F3 x) (next:=λ_ _=>?_);refine go ?_;refine bn (F3 y) (next:=λ_ _=>?_);refine go ?_;refine bL rfl (λh1=>?_) (λh1=>?_)
 ·refine go ?_;refine bf () (hv:=?_) (hp:=trivial);rw[aO,if_pos h1];rfl
 refine go ?_;refine bL rfl (λh2=>?_) (λh2=>?_)
 ·refine go ?_;refine bf () (hv:=?_) (hp:=trivial);rw[aO,if_neg h1,if_pos h2];rfl
 refine go ?_;refine bf () (hv:=?_) (hp:=trivial);rw[aO,if_neg h1,if_neg h2];rfl
theorem PU{α:Type}{xs:List α}{k:Nat}{x:α}(h:xs[k]? =some x):xs.drop k=x::xs.drop (k+1):=by
 obtain⟨hlt,he⟩:=bH.1 h;rw[x8 hlt,he]
theorem F5{v:Value}{xs:List Int}(hl:xs.length<9223372036854775808):fV Tryz.prog 68 [v] [bg fo v xs] (.int .i64 (jK xs)):=by
 refine dY _ (dP 68) λB w0=>?_;refine go ?_;refine iJ (λk=>xs.length - k) (λk:Nat=>[(8,.int .i64 (k:Int))]) (λ_=>[]) (λ_=>[]) (λk=>k<=xs.length/\jK xs=jK (xs.drop k)) 0 ⟨by omega,rfl⟩ (body:=?_);rintro k ⟨hk,hf⟩;refine go ?_;refine bL rfl (λh1=>?_) (λh1=>?_)
 ·refine go ?_;intro _ _ x hx;have hd:=PU hx;refine go ?_;refine bL rfl (λh2=>?_) (λh2=>?_)
  ·refine go ?_;refine bf () (hv:=?_) (hp:=trivial);rw[hf,hd,jK,if_pos h2];rfl
  ·refine go ?_;refine dw (k+1) (by show xs.length - (k+1)<xs.length - k;omega) ⟨by omega,?_⟩;rw[hf,hd,jK,if_neg h2]
 have hk:k=xs.length:=by omega
 refine go ?_;refine bf () (hv:=?_) (hp:=trivial);rw[hf,hk,List.drop_length];rfl
theorem F6{a b:Clue}{va vb:Value}:fV Tryz.prog 38 [lg a va,lg b vb] [] (.int .i64 (aV a b)):=by
 refine dY _ (dP 38) λB w0=>?_;refine go ?_;intro b2 b3;refine go ?_;refine bn (F4 a.bA b.bA) (next:=λ_ _=>?_);refine go ?_;refine bn (F4 a.at_ b.at_) (next:=λ_ _=>?_);refine go ?_;intro b15;refine oP (A:=pt b15 (.cells [.int .i64 (aO a.bA b.bA),.int .i64 (aO a.at_ b.at_)])) (fs:=[bg fo (.slice (some ⟨b15,0,some 0⟩) 2 2) [aO a.bA b.bA,aO a.at_ b.at_]]) (z8 (b:=b15) (f:=0) (c:=2) (xs:=[aO a.bA b.bA,aO a.at_ b.at_])) (h:=?_);refine go ?_;refine bn (F5 (xs:=[aO a.bA b.bA,aO a.at_ b.at_]) (by simp)) (next:=λ_ _=>?_);refine go ?_;exact bf () (hv:=rfl) (hp:=trivial)
open Go.Ideal Kd Canon Go.Sort
theorem PV:Av Tryz.prog 44 3:=λα _ enc cf g cb blk off cap d w hk h1 hO eg hcmp hH hblk hsz=>AnyQ.slices_SortFunc Tryz.laysF6 3 Tryz.isAgg59 Tryz.sizeOf59 enc hk h1 cf hO g cb blk off cap d w eg hcmp hH hblk hsz
theorem PW:AA Tryz.prog 44:=λp cap fv w=>AnyF.slices_SortFunc_none Tryz.laysF6 p cap fv w
theorem PX{α:Type}{c:α->α->Int}(h:tu c):SWO (ltOf c):=by
 have hz:=h.zero;have hn:=h.neg;have ht:=h.trans;refine⟨λx=>?_,λx y z h1 h2=>?_,λx y z h1 h2=>?_⟩
 ·have:=(hz x x).2 rfl;exact mQ (by omega)
 ·exact mO (ht x y z (jO h1) (jO h2))
 ·have h1:¬c x y<0:=uw h1;have h2:¬c y z<0:=uw h2;refine mQ λh3=>?_;by_cases e1:c x y=0
  ·rw[(hz x y).1 e1]at h3;exact h2 h3
  by_cases e2:c y z=0
  ·rw[<- (hz y z).1 e2]at h3;exact h1 h3
  have h4:=(hn z y).2 (by omega);have h5:=(hn y x).2 (by omega);have h6:=ht z y x h4 h5;have h7:=(hn z x).1 h6;omega
theorem PY{a b:Clue}{va vb:Value}(ha:a.values.length<=1000000)(hb:b.values.length<=1000000):fV Tryz.prog 42 [lg a va,lg b vb] [bg fo va a.values,bg fo vb b.values] (.int .i64 (iw a b)):=by
 refine dY _ (dP 42) λB w0=>?_;refine go ?_;intro b2 b3;refine go ?_;refine bn (F6 (a:=a) (b:=b) (va:=va) (vb:=vb)) (next:=λ_ _=>?_);refine go ?_;refine bn (PT (xs:=a.values) (ys:=b.values) ha hb) (next:=λ_ _=>?_);refine go ?_;intro b15;refine oP (A:=pt b15 (.cells [.int .i64 (aV a b),.int .i64 (aZ aO a.values b.values)])) (fs:=[bg fo (.slice (some ⟨b15,0,some 0⟩) 2 2) [aV a b,aZ aO a.values b.values]]) (z8 (b:=b15) (f:=0) (c:=2) (xs:=[aV a b,aZ aO a.values b.values])) (h:=?_);refine go ?_;refine bn (F5 (xs:=[aV a b,aZ aO a.values b.values]) (by simp)) (next:=λ_ _=>?_);refine go ?_;refine bf () (hv:=?_) (hp:=trivial);rw[Ep,<- kD];simp only[jK];by_cases h1:aV a b=0
 ·by_cases h2:aZ aO a.values b.values=0
  ·simp[h1,h2];rfl
  ·simp[h1,h2];rfl
 ·simp[h1];rfl
theorem PZ{xs:List Clue}{a:Option Addr}(hlen:xs.length<4611686018427387904)(hv:∀x∈xs,x.values.length<=1000000):
 cB Tryz.prog (.func 44) [.slice a xs.length xs.length,.func (.func 42) ⟨[]⟩ ⟨[]⟩] [] [ap az (.slice a xs.length xs.length) xs] [] (λ_:List Clue=>.tuple ⟨[]⟩) (λys=>[ap az (.slice a xs.length xs.length) ys]) (λ_=>[]) (λys=>ys.Perm xs/\ys.Pairwise λx y=>¬iw y x<0):=by
 refine Oh (by kernel_rfl) PV PW Tryz.func44 rfl (by decide) Tryz.func42 rfl (by decide) rfl (by decide) (PX Er) (λx hx y hy u v=>?_) hlen;exact PY (hv x hx) (hv y hy)
theorem F7{a b:Clue}{va vb:Value}:fV Tryz.prog 46 [lg a va,lg b vb] [] (.bool (iy a b)):=by
 refine dY _ (dP 46) λB w0=>?_;refine go ?_;intro b2 b3;refine go ?_;refine bn (F6 (a:=a) (b:=b) (va:=va) (vb:=vb)) (next:=λ_ _=>?_);refine go ?_;exact bf () (hv:=rfl) (hp:=trivial)
abbrev CV:=Clue×az.Y
abbrev lq(p q:CV):Bool:=iy p.1 q.1
theorem P5{β:Type}{eq:β->β->Bool}:∀{l:List β},l.length<2->jf eq l=l
 |[],_=>rfl
 |[_],_=>rfl
 |_::_::_,h=>by simp at h;omega
theorem mH{α:Type}{l:List α}{k:Nat}{x:α}(h:l[k]? =some x):l.take (k+1)=l.take k++[x]:=by
 rw[List.take_add_one,h];rfl
theorem P6{xs:List Clue}{b f m:Nat}(hl:xs.length<=1000000):cB Tryz.prog (.func 45) [.slice (some ⟨b,0,some f⟩) m m,.func (.func 46) ⟨[]⟩ ⟨[]⟩] [] [ap az (.slice (some ⟨b,0,some f⟩) m m) xs] [] (λv:Value=>v) (λ_=>[]) (λv=>[bg az v (jf iy xs)]) (λ_=>True):=by
 refine dY _ (dP 45) λB w0=>?_;refine Oz az λaa hxy hm hf=>?_;have hgn:az.n=3:=rfl;have hlen:aa.length=xs.length:=by rw[<- hxy,bW]
 subst hm;rw[<- hlen];have hcm:(jf lq aa).map (·.1)=jf iy xs:=by rw[<- hxy];exact OY (·.1) (λ_ _=>rfl) aa
 rw[<- hcm];have hall:∀{F:List ay} {zs:List CV},kz az aa∈F->(∀p∈zs,p∈aa)->∀w,(∀f∈F,f.p w)->(kz az zs).p w:=λhF hz w h p hp f hf=>h _ hF p (hz p hp) f hf;refine go ?_;refine bL rfl (λh1=>?_) (λh1=>?_)
 ·rw[P5 (eq:=lq) (show aa.length<2 by omega)];refine go ?_;have e0:aL az aa=aL az aa++[]:=(fu _).symm;rw[e0];refine xD az (aa:=aa) hf (aB _) ?_ (hall (by simp) λp hp=>hp);exact bf (.slice (some ⟨b,0,some f⟩) aa.length aa.length) (hv:=rfl) (hp:=trivial)
 refine go ?_;refine iJ (λk=>aa.length - k) (λk:Nat=>[(5,.int .i64 (k:Int))]) (λ_=>[]) (λ_=>[]) (λk=>1<=k/\k<=aa.length/\∀p,aa[k - 1]? =some p->jf lq aa=aa.take k++cgo lq p (aa.drop k)) 1 ⟨by omega,by omega,λp hp=>?_⟩ (body:=?_)
 ·cases aa with
  |nil=>cases hp
  |cons x l=>cases hp;rfl
 rintro k ⟨hk1,hkn,hck⟩;refine go ?_;refine bL rfl (λh2=>?_) (λh2=>?_)
 rotate_left
 ·have hk:k=aa.length:=by omega
  obtain⟨p,hp⟩:∃p,aa[k - 1]? =some p:=⟨_,aU (by omega)⟩
  have hck:=hck p hp;rw[hk,List.drop_length,nT,cgo,fu]at hck;rw[hck];refine go ?_;have e0:aL az aa=aL az aa++[]:=(fu _).symm;rw[e0];refine xD az (aa:=aa) hf (aB _) ?_ (hall (by simp) λp hp=>hp);exact bf (.slice (some ⟨b,0,some f⟩) aa.length aa.length) (hv:=rfl) (hp:=trivial)
 have hkl:k<aa.length:=by omega
 obtain⟨p,hp⟩:∃p,aa[k - 1]? =some p:=⟨_,aU (by omega)⟩
 obtain⟨y,hy⟩:∃y,aa[k]? =some y:=⟨_,aU hkl⟩
 have hck:=hck p hp;rw[drop_cons hy,cgo]at hck;refine go ?_;refine tX az (o:=0+k*3) hy (by rw[hgn];omega) ?_;refine go ?_;refine tX az (o:=0+((k:Int) - 1).toNat*3) hp (by rw[hgn];omega) ?_;refine go ?_;refine bn (F7 (a:=y.1) (b:=p.1) (va:=y.2) (vb:=p.2)) (next:=λ_ _=>?_);refine go ?_;cases he:iy y.1 p.1 with
 |false=>
  refine go ?_;refine dw (k+1) (by show aa.length - (k+1)<aa.length - k;omega) ⟨by omega,by omega,λp' hp'=>?_⟩;rw[Nat.add_sub_cancel,hy]at hp';cases hp';rw[hck,mH hy,show lq y p=false from he,cond_false,fD];rfl
 |true=>
  rw[show lq y p=true from he,cond_true]at hck;refine go ?_;refine(jb rfl rfl (AC (lo:=k) (hi:=aa.length) rfl (by rw[<- hgn];exact hf) (by omega) (.inr ⟨_,rfl,rfl⟩) (.inl ⟨rfl,rfl⟩) (by omega) (aB _))).h ?_;refine go ?_;refine iJ (λx:Nat×Nat×List CV=>aa.length - x.2.1) (λx=>[(7,.int .i64 (x.2.1:Int)),(5,.int .i64 (x.1:Int))]) (λx=>[pt b (.cells (aL az x.2.2))]) (λ_=>[])
   (λx=>1<=x.2.1/\k+x.2.1<=aa.length/\k<=x.1/\x.1+1<=k+x.2.1/\x.2.2.length=aa.length/\(∀j,k+x.2.1 - 1<=j->x.2.2[j]? =aa[j]?)/\(∀p,aa[k+x.2.1 - 1]? =some p->jf lq aa=x.2.2.take x.1++cgo lq p (aa.drop (k+x.2.1)))/\∀q∈x.2.2,q∈aa)
   (k,1,aa) ⟨aB _,by dsimp only;omega,aB _,aB _,rfl,λ_ _=>rfl,λp' hp'=>?_,λq hq=>hq⟩ (body:=?_)
  ·rw[show k+1 - 1=k by omega,hy]at hp';cases hp';exact hck
  rintro⟨kk,k2,zs⟩ ⟨i1,i2,i3,i4,i5,i6,i7,i8⟩;dsimp only at i1 i2 i3 i4 i5 i6 i7 i8⊢;obtain⟨p2,hp2⟩:∃p,aa[k+k2 - 1]? =some p:=⟨_,aU (by omega)⟩
  have i7:=i7 p2 hp2;refine go ?_;refine bL rfl (λh3=>?_) (λh3=>?_)
  rotate_left
  ·have hk2:k+k2=aa.length:=by omega
   rw[hk2,List.drop_length,cgo,fu]at i7;have hkk:(zs.take kk).length=kk:=by rw[pz];omega
   refine go ?_;refine(jb rfl rfl (AC (lo:=kk) (hi:=aa.length) rfl (by rw[<- hgn];exact hf) (by omega) (.inr ⟨_,rfl,rfl⟩) (.inl ⟨rfl,rfl⟩) (by omega) (aB _))).h ?_;have hov:bX (aL az zs) (0+kk*3) (zeros [.int .i64 (.ofNat 0),.int .i64 (.ofNat 0),.slice none 0 0] (aa.length - kk))=some (aL az (zs.take kk)++zeros [.int .i64 (.ofNat 0),.int .i64 (.ofNat 0),.slice none 0 0] (aa.length - kk)):=by
    have hz:=zeros_length [.int .i64 (.ofNat 0),.int .i64 (.ofNat 0),.slice none 0 0] (aa.length - kk);have e1:aL az zs=aL az (zs.take kk)++aL az (zs.drop kk):=by rw[<- tV,uu]
    have e2:(aL az (zs.take kk)).length=0+kk*3:=by rw[lc,hkk,hgn];omega
    have e3:(aL az (zs.drop kk)).length=(aa.length - kk)*3:=by rw[lc,gq,hgn,i5]
    have hz3:(zeros [.int .i64 (.ofNat 0),.int .i64 (.ofNat 0),.slice none 0 0] (aa.length - kk)).length=(aa.length - kk)*3:=by rw[hz];rfl
    rw[e1,<- e2,Ap (by rw[hz3,e3];exact aB _),List.drop_of_length_le (by rw[hz3,e3];exact aB _),fu]
   refine Ox hov (by omega) ?_;refine go ?_;refine(jb rfl rfl (AC (lo:=0) (hi:=kk) rfl (by rw[<- hgn];exact hf) (by omega) (.inl ⟨rfl,rfl⟩) (.inr ⟨_,rfl,rfl⟩) (by omega) (by omega))).h ?_;rw[qY,dU,pu,pu];refine go ?_;refine xD az (aa:=zs.take kk) (c:=aa.length) hf (by omega) ?_ (hall (by simp) λq hq=>i8 q (Bn hq));rw[i7,hkk];exact bf (.slice (some ⟨b,0,some f⟩) kk aa.length) (hv:=rfl) (hp:=trivial)
  have hlt:k+k2<aa.length:=by omega
  obtain⟨y2,hy2⟩:∃y,aa[k+k2]? =some y:=⟨_,aU hlt⟩
  have F8:zs[k+k2]? =some y2:=by rw[i6 _ (by omega),hy2]
  have P7:zs[k+k2 - 1]? =some p2:=by rw[i6 _ (by omega),hp2]
  rw[drop_cons hy2,cgo]at i7;refine go ?_;refine tX az (o:=0+k*3+k2*3) F8 (by rw[hgn];omega) ?_;refine go ?_;refine tX az (o:=0+k*3+((k2:Int) - 1).toNat*3) P7 (by rw[hgn];omega) ?_;refine go ?_;refine bn (F7 (a:=y2.1) (b:=p2.1) (va:=y2.2) (vb:=p2.2)) (next:=λ_ _=>?_);refine go ?_;cases he2:iy y2.1 p2.1 with
  |true=>
   rw[show lq y2 p2=true from he2,cond_true]at i7;refine go ?_;refine dw (kk,k2+1,zs) (by show aa.length - (k2+1)<aa.length - k2;omega) ⟨by dsimp only;omega,by dsimp only;omega,i3,by dsimp only;omega,i5,λj hj=>i6 j (by dsimp only at hj;omega),λp' hp'=>?_,i8⟩;rw[show k+(k2+1) - 1=k+k2 by omega,hy2]at hp';cases hp';exact i7
  |false=>
   rw[show lq y2 p2=false from he2,cond_false]at i7;refine go ?_;refine tX az (o:=0+k*3+k2*3) F8 (by rw[hgn];omega) ?_;refine go ?_;refine Ow az (aa:=zs) (k:=kk) (o:=0+kk*3) y2 (by omega) (by rw[hgn];omega) ?_;refine go ?_;have htk:(zs.set kk y2).take (kk+1)=zs.take kk++[y2]:=by
    rw[mH (x:=y2) (by rw[List.getElem?_set_self (by omega)]),List.take_set_of_le (aB _)]
   refine dw (kk+1,k2+1,zs.set kk y2) (by show aa.length - (k2+1)<aa.length - k2;omega) ⟨by dsimp only;omega,by dsimp only;omega,by dsimp only;omega,by dsimp only;omega,by rw[List.length_set];exact i5,λj hj=>?_,λp' hp'=>?_,λq hq=>?_⟩
   ·dsimp only at hj⊢;rw[List.getElem?_set_ne (by omega)];exact i6 j (by omega)
   ·rw[show k+(k2+1) - 1=k+k2 by omega,hy2]at hp';cases hp';rw[htk,i7,fD];rfl
   ·rcases List.mem_or_eq_of_mem_set hq with h|h
    ·exact i8 q h
    ·rw[h];exact cK hy2
def P8(a:Option Addr)(n:Nat):Prop:=(a=none/\n=0)\/∃b f,a=some ⟨b,0,some f⟩
theorem P9{v:Value}{xs:List Clue}(hl:xs.length<=1000000):cB Tryz.prog (.func 43) [v] [] [] [bg az v xs] (λa:Option Addr=>.slice a xs.length xs.length) (λa=>[ap az (.slice a xs.length xs.length) xs]) (λ_=>[]) (λa=>P8 a xs.length):=by
 refine dY _ (dP 43) λB w0=>?_;refine xm az v (xs:=xs) λaa hxy=>?_;have hlen:aa.length=xs.length:=by rw[<- hxy,bW]
 refine xn (aa:=aa) (v:=v) (E:=az) ?_;refine OB (v:=v) (aa:=aa) az (λe c ev=>?_) (λe i o f c ev=>?_) (λhne i o f c ev=>?_)
 ·subst e ev;have hx:xs=[]:=by rw[<- hxy];rfl
  subst hx;simp only[pq];refine go ?_;refine(jb rfl rfl (Nz (e:=59) (by kernel_rfl) rfl)).h ?_;refine go ?_;refine Ab az ?_;exact bf none (hv:=rfl) (hp:=.inl ⟨rfl,rfl⟩)
 ·subst e ev;have hx:xs=[]:=by rw[<- hxy];rfl
  subst hx;simp only[pq];refine go ?_;refine(jb rfl rfl (E8 (e:=59) (by kernel_rfl) rfl)).h ?_;refine go ?_;intro b;refine go ?_;refine NA (b:=b) ?_;refine go ?_;refine MB az ax.here ?_;exact bf (some ⟨b,0,some 0⟩) (hv:=rfl) (hp:=.inr ⟨b,0,rfl⟩)
 ·subst ev;refine go ?_;refine(jb rfl rfl (E8 (e:=59) (by kernel_rfl) rfl)).h ?_;refine go ?_;intro b;refine go ?_;refine NB (b:=b) az aa hne (by omega) (λb'=>?_);refine go ?_;refine Ny (b:=b') (m:=aa.length) (f:=az.n) az (aa:=aa) rfl (.inr rfl) ?_ (hk:=ax.here);refine NF (aa:=aa) hne ?_ (λw h=>h _ (by simp));rw[hxy,hlen];exact bf (some ⟨b',0,some az.n⟩) (hv:=rfl) (hp:=.inr ⟨b',_,rfl⟩)
theorem Qa:cB Tryz.prog (.func 45) [.slice none 0 0,.func (.func 46) ⟨[]⟩ ⟨[]⟩] [] [] [] (λ_:Unit=>.slice none 0 0) (λ_=>[]) (λ_=>[]) (λ_=>True):=by
 refine dY _ (dP 45) λB w0=>?_;refine go ?_;exact bf () (hv:=rfl) (hp:=trivial)
theorem xL{v:Value}{xs:List Clue}(hl:xs.length<=1000000)(hv:∀x∈xs,x.values.length<=1000000):cB Tryz.prog (.func 19) [v] [] [] [bg az v xs] (λy:Value×List Clue=>.agg ⟨[y.1]⟩) (λ_=>[]) (λy=>[bg az y.1 y.2]) (λy=>fC xs y.2):=by
 refine dY _ (dP 19) λB w0=>?_;refine go ?_;intro b2;refine go ?_;refine bn (P9 (xs:=xs) hl) (next:=λa ha=>?_);refine go ?_;refine bn (PZ (xs:=xs) (a:=a) (by omega) hv) (next:=λys hy=>?_);have hlen:ys.length=xs.length:=hy.1.length_eq;have hok:=OZ hy.1 hy.2;refine go ?_;rcases ha with⟨rfl,h0⟩|⟨b,f,rfl⟩
 ·have hx:xs=[]:=jm.1 h0;subst hx;have hys:ys=[]:=jm.1 (hlen.trans h0);subst hys;refine bn Qa (next:=λ_ _=>?_);refine go ?_;refine M6 (bg az (.slice none 0 0) []) (λw hw=>.inl ⟨rfl,none,0,rfl,trivial⟩) ?_;exact bf (.slice none 0 0,[]) (hv:=rfl) (hp:=hok)
 ·refine bn (P6 (xs:=ys) (b:=b) (f:=f) (m:=xs.length) (by omega)) (next:=λvr _=>?_);refine qB (E:=az) (v:=vr) (xs:=jf iy ys) (by simp) λkG cr er=>?_;subst er;refine go ?_;exact bf (.slice kG (jf iy ys).length cr,jf iy ys) (hv:=rfl) (hp:=hok)
