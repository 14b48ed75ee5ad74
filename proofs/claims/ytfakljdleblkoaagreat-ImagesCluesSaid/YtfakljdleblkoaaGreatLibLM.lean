/-
  The library's sort of clues by their order.
-/
import Derived.Test.YtfakljdleblkoaaGreatShelfS
import Derived.Test.YtfakljdleblkoaaGreatIdealPM
import Derived.Test.YtfakljdleblkoaaGreatLibIM
set_option linter.all false
set_option maxRecDepth 10000
set_option maxHeartbeats 4000000
namespace Go.Proofs.YtfakljdleblkoaaGreat
open Go.Ideal Kd Canon Go.Sort
theorem akb:JM Tryz.prog 75 3:=λα _ enc cf g cb blk off cap d w hk h1 hO eg hcmp hH hblk hsz=>AnyQ.slices_SortFunc Tryz.laysF6 3 Tryz.isAgg60 Tryz.sizeOf60 enc hk h1 cf hO g cb blk off cap d w eg hcmp hH hblk hsz
theorem akd:JN Tryz.prog 75:=λp cap fv w=>AnyF.slices_SortFunc_none Tryz.laysF6 p cap fv w
theorem ake{α:Type}{c:α->α->Int}(h:Fx c):SWO (ltOf c):=by
 have hz:=h.zero;have hn:=h.neg;have ht:=h.trans;refine⟨λx=>?_,λx y z h1 h2=>?_,λx y z h1 h2=>?_⟩
 ·have:=(hz x x).2 rfl;exact dM (by omega)
 ·exact fQ (ht x y z (jg h1) (jg h2))
 ·have h1:¬c x y<0:=uI h1;have h2:¬c y z<0:=uI h2;refine dM λh3=>?_;by_cases e1:c x y=0
  ·rw[(hz x y).1 e1]at h3;exact h2 h3
  by_cases e2:c y z=0
  ·rw[<- (hz y z).1 e2]at h3;exact h1 h3
  have h4:=(hn z y).2 (by omega);have h5:=(hn y x).2 (by omega);have h6:=ht z y x h4 h5;have h7:=(hn z x).1 h6;omega
theorem akf{a b:Clue}{va vb:Value}(ha:a.values.length<=1000000)(hb:b.values.length<=1000000):eG Tryz.prog 76 [pK a va,pK b vb] [ah ae va a.values,ah ae vb b.values] (.int .i64 (tV a b)):=by
 refine aK _ (aM 76) λB w0=>?_;refine go ?_;intro b2 b3;refine go ?_;refine ak (Qv (a:=a) (b:=b) (va:=va) (vb:=vb)) (next:=λ_ _=>?_);refine go ?_;refine ak (ajC (xs:=a.values) (ys:=b.values) ha hb) (next:=λ_ _=>?_);refine go ?_;intro b15;refine aZ (A:=pt b15 (.cells [.int .i64 (eZ a b),.int .i64 (fG eD a.values b.values)])) (fs:=[ah ae (.slice (some ⟨b15,0,some 0⟩) 2 2) [eZ a b,fG eD a.values b.values]]) (uX (b:=b15) (f:=0) (c:=2) (xs:=[eZ a b,fG eD a.values b.values])) (h:=?_);refine go ?_;refine ak (Yj (xs:=[eZ a b,fG eD a.values b.values]) (by simp)) (next:=λ_ _=>?_);refine go ?_;refine aj () (hv:=?_) (hp:=trivial);rw[Uo,<- Wl];simp only[uq];by_cases h1:eZ a b=0
 ·by_cases h2:fG eD a.values b.values=0
  ·simp[h1,h2];rfl
  ·simp[h1,h2];rfl
 ·simp[h1];rfl
theorem akg{xs:List Clue}{a:Option Addr}(hlen:xs.length<4611686018427387904)(hv:∀x∈xs,x.values.length<=1000000):
 aQ Tryz.prog (.func 75) [.slice a xs.length xs.length,.func (.func 76) ⟨[]⟩ ⟨[]⟩] [] [ap bG (.slice a xs.length xs.length) xs] [] (λ_:List Clue=>.tuple ⟨[]⟩) (λys=>[ap bG (.slice a xs.length xs.length) ys]) (λ_=>[]) (λys=>ys.Perm xs/\ys.Pairwise λx y=>¬tV y x<0):=by
 refine afI (by kernel_rfl) akb akd Tryz.func75 rfl (by decide) Tryz.func76 rfl (by decide) rfl (by decide) (ake adm) (λx hx y hy u v=>?_) hlen;exact akf (hv x hx) (hv y hy)
open Go.Ideal Kd Canon
theorem Yz{a b:Clue}{va vb:Value}:eG Tryz.prog 78 [pK a va,pK b vb] [] (.bool (qo a b)):=by
 refine aK _ (aM 78) λB w0=>?_;refine go ?_;intro b2 b3;refine go ?_;refine ak (Qv (a:=a) (b:=b) (va:=va) (vb:=vb)) (next:=λ_ _=>?_);refine go ?_;exact aj () (hv:=rfl) (hp:=trivial)
abbrev CV:=Clue×bG.Y
abbrev wQ(p q:CV):Bool:=qo p.1 q.1
theorem akh{β:Type}{eq:β->β->Bool}:∀{l:List β},l.length<2->sw eq l=l
 |[],_=>rfl
 |[_],_=>rfl
 |_::_::_,h=>by simp at h;omega
theorem YA{α:Type}{l:List α}{k:Nat}{x:α}(h:l[k]? =some x):l.take (k+1)=l.take k++[x]:=by
 rw[pg,h];rfl
theorem aki{xs:List Clue}{b f m:Nat}(hl:xs.length<=1000000):aQ Tryz.prog (.func 77) [.slice (some ⟨b,0,some f⟩) m m,.func (.func 78) ⟨[]⟩ ⟨[]⟩] [] [ap bG (.slice (some ⟨b,0,some f⟩) m m) xs] [] (λv:Value=>v) (λ_=>[]) (λv=>[ah bG v (sw qo xs)]) (λ_=>True):=by
 refine aK _ (aM 77) λB w0=>?_;refine afN bG λay hxy hm hf=>?_;have hgn:bG.n=3:=rfl;have hlen:ay.length=xs.length:=by rw[<- hxy,bJ]
 subst hm;rw[<- hlen];have hcm:(sw wQ ay).map (·.1)=sw qo xs:=by rw[<- hxy];exact agK (·.1) (λ_ _=>rfl) ay
 rw[<- hcm];have hall:∀{F:List aD} {zs:List CV},r9 bG ay∈F->(∀p∈zs,p∈ay)->∀w,(∀f∈F,f.p w)->(r9 bG zs).p w:=λhF hz w h p hp f hf=>h _ hF p (hz p hp) f hf;refine go ?_;refine aJ rfl (λh1=>?_) (λh1=>?_)
 ·rw[akh (eq:=wQ) (show ay.length<2 by omega)];refine go ?_;have e0:dD bG ay=dD bG ay++[]:=(iK _).symm;rw[e0];refine Oz bG (ay:=ay) hf (bB _) ?_ (hall (by simp) λp hp=>hp);exact aj (.slice (some ⟨b,0,some f⟩) ay.length ay.length) (hv:=rfl) (hp:=trivial)
 refine go ?_;refine bQ (λk=>ay.length - k) (λk:Nat=>[(5,.int .i64 (k:Int))]) (λ_=>[]) (λ_=>[]) (λk=>1<=k/\k<=ay.length/\∀p,ay[k - 1]? =some p->sw wQ ay=ay.take k++cgo wQ p (ay.drop k)) 1 ⟨by omega,by omega,λp hp=>?_⟩ (body:=?_)
 ·cases ay with
  |nil=>cases hp
  |cons x l=>cases hp;rfl
 rintro k ⟨hk1,hkn,hck⟩;refine go ?_;refine aJ rfl (λh2=>?_) (λh2=>?_)
 rotate_left
 ·have hk:k=ay.length:=by omega
  obtain⟨p,hp⟩:∃p,ay[k - 1]? =some p:=⟨_,bC (by omega)⟩
  have hck:=hck p hp;rw[hk,Cg,eH,cgo,iK]at hck;rw[hck];refine go ?_;have e0:dD bG ay=dD bG ay++[]:=(iK _).symm;rw[e0];refine Oz bG (ay:=ay) hf (bB _) ?_ (hall (by simp) λp hp=>hp);exact aj (.slice (some ⟨b,0,some f⟩) ay.length ay.length) (hv:=rfl) (hp:=trivial)
 have hkl:k<ay.length:=by omega
 obtain⟨p,hp⟩:∃p,ay[k - 1]? =some p:=⟨_,bC (by omega)⟩
 obtain⟨y,hy⟩:∃y,ay[k]? =some y:=⟨_,bC hkl⟩
 have hck:=hck p hp;rw[drop_cons hy,cgo]at hck;refine go ?_;refine FZ bG (o:=0+k*3) hy (by rw[hgn];omega) ?_;refine go ?_;refine FZ bG (o:=0+((k:Int) - 1).toNat*3) hp (by rw[hgn];omega) ?_;refine go ?_;refine ak (Yz (a:=y.1) (b:=p.1) (va:=y.2) (vb:=p.2)) (next:=λ_ _=>?_);refine go ?_;cases he:qo y.1 p.1 with
 |false=>
  refine go ?_;refine bi (k+1) (by show ay.length - (k+1)<ay.length - k;omega) ⟨by omega,by omega,λp' hp'=>?_⟩;rw[Rx,hy]at hp';cases hp';rw[hck,YA hy,show wQ y p=false from he,cond_false,ed];rfl
 |true=>
  rw[show wQ y p=true from he,cond_true]at hck;refine go ?_;refine(fF rfl rfl (Oy (lo:=k) (hi:=ay.length) rfl (by rw[<- hgn];exact hf) (by omega) (.inr ⟨_,rfl,rfl⟩) (.inl ⟨rfl,rfl⟩) (by omega) (bB _))).h ?_;refine go ?_;refine bQ (λx:Nat×Nat×List CV=>ay.length - x.2.1) (λx=>[(7,.int .i64 (x.2.1:Int)),(5,.int .i64 (x.1:Int))]) (λx=>[pt b (.cells (dD bG x.2.2))]) (λ_=>[])
   (λx=>1<=x.2.1/\k+x.2.1<=ay.length/\k<=x.1/\x.1+1<=k+x.2.1/\x.2.2.length=ay.length/\(∀j,k+x.2.1 - 1<=j->x.2.2[j]? =ay[j]?)/\(∀p,ay[k+x.2.1 - 1]? =some p->sw wQ ay=x.2.2.take x.1++cgo wQ p (ay.drop (k+x.2.1)))/\∀q∈x.2.2,q∈ay)
   (k,1,ay) ⟨bB _,by dsimp only;omega,bB _,bB _,rfl,λ_ _=>rfl,λp' hp'=>?_,λq hq=>hq⟩ (body:=?_)
  ·rw[show k+1 - 1=k by omega,hy]at hp';cases hp';exact hck
  rintro⟨kk,k2,zs⟩ ⟨i1,i2,i3,i4,i5,i6,i7,i8⟩;dsimp only at i1 i2 i3 i4 i5 i6 i7 i8⊢;obtain⟨p2,hp2⟩:∃p,ay[k+k2 - 1]? =some p:=⟨_,bC (by omega)⟩
  have i7:=i7 p2 hp2;refine go ?_;refine aJ rfl (λh3=>?_) (λh3=>?_)
  rotate_left
  ·have hk2:k+k2=ay.length:=by omega
   rw[hk2,Cg,cgo,iK]at i7;have hkk:(zs.take kk).length=kk:=by rw[iL];omega
   refine go ?_;refine(fF rfl rfl (Oy (lo:=kk) (hi:=ay.length) rfl (by rw[<- hgn];exact hf) (by omega) (.inr ⟨_,rfl,rfl⟩) (.inl ⟨rfl,rfl⟩) (by omega) (bB _))).h ?_;have hov:jq (dD bG zs) (0+kk*3) (zeros [.int .i64 (.ofNat 0),.int .i64 (.ofNat 0),.slice none 0 0] (ay.length - kk))=some (dD bG (zs.take kk)++zeros [.int .i64 (.ofNat 0),.int .i64 (.ofNat 0),.slice none 0 0] (ay.length - kk)):=by
    have hz:=zeros_length [.int .i64 (.ofNat 0),.int .i64 (.ofNat 0),.slice none 0 0] (ay.length - kk);have e1:dD bG zs=dD bG (zs.take kk)++dD bG (zs.drop kk):=by rw[<- Ox,mM]
    have e2:(dD bG (zs.take kk)).length=0+kk*3:=by rw[wE,hkk,hgn];omega
    have e3:(dD bG (zs.drop kk)).length=(ay.length - kk)*3:=by rw[wE,uG,hgn,i5]
    have hz3:(zeros [.int .i64 (.ofNat 0),.int .i64 (.ofNat 0),.slice none 0 0] (ay.length - kk)).length=(ay.length - kk)*3:=by rw[hz];rfl
    rw[e1,<- e2,VE (by rw[hz3,e3];exact bB _),List.drop_of_length_le (by rw[hz3,e3];exact bB _),iK]
   refine afM hov (by omega) ?_;refine go ?_;refine(fF rfl rfl (Oy (lo:=0) (hi:=kk) rfl (by rw[<- hgn];exact hf) (by omega) (.inl ⟨rfl,rfl⟩) (.inr ⟨_,rfl,rfl⟩) (by omega) (by omega))).h ?_;rw[Ep,fw,Ak,Ak];refine go ?_;refine Oz bG (ay:=zs.take kk) (c:=ay.length) hf (by omega) ?_ (hall (by simp) λq hq=>i8 q (LF hq));rw[i7,hkk];exact aj (.slice (some ⟨b,0,some f⟩) kk ay.length) (hv:=rfl) (hp:=trivial)
  have hlt:k+k2<ay.length:=by omega
  obtain⟨y2,hy2⟩:∃y,ay[k+k2]? =some y:=⟨_,bC hlt⟩
  have YB:zs[k+k2]? =some y2:=by rw[i6 _ (by omega),hy2]
  have hzp:zs[k+k2 - 1]? =some p2:=by rw[i6 _ (by omega),hp2]
  rw[drop_cons hy2,cgo]at i7;refine go ?_;refine FZ bG (o:=0+k*3+k2*3) YB (by rw[hgn];omega) ?_;refine go ?_;refine FZ bG (o:=0+k*3+((k2:Int) - 1).toNat*3) hzp (by rw[hgn];omega) ?_;refine go ?_;refine ak (Yz (a:=y2.1) (b:=p2.1) (va:=y2.2) (vb:=p2.2)) (next:=λ_ _=>?_);refine go ?_;cases he2:qo y2.1 p2.1 with
  |true=>
   rw[show wQ y2 p2=true from he2,cond_true]at i7;refine go ?_;refine bi (kk,k2+1,zs) (by show ay.length - (k2+1)<ay.length - k2;omega) ⟨by dsimp only;omega,by dsimp only;omega,i3,by dsimp only;omega,i5,λj hj=>i6 j (by dsimp only at hj;omega),λp' hp'=>?_,i8⟩;rw[show k+(k2+1) - 1=k+k2 by omega,hy2]at hp';cases hp';exact i7
  |false=>
   rw[show wQ y2 p2=false from he2,cond_false]at i7;refine go ?_;refine FZ bG (o:=0+k*3+k2*3) YB (by rw[hgn];omega) ?_;refine go ?_;refine afL bG (ay:=zs) (k:=kk) (o:=0+kk*3) y2 (by omega) (by rw[hgn];omega) ?_;refine go ?_;have htk:(zs.set kk y2).take (kk+1)=zs.take kk++[y2]:=by
    rw[YA (x:=y2) (by rw[List.getElem?_set_self (by omega)]),List.take_set_of_le (bB _)]
   refine bi (kk+1,k2+1,zs.set kk y2) (by show ay.length - (k2+1)<ay.length - k2;omega) ⟨by dsimp only;omega,by dsimp only;omega,by dsimp only;omega,by dsimp only;omega,by rw[nM];exact i5,λj hj=>?_,λp' hp'=>?_,λq hq=>?_⟩
   ·dsimp only at hj⊢;rw[List.getElem?_set_ne (by omega)];exact i6 j (by omega)
   ·rw[show k+(k2+1) - 1=k+k2 by omega,hy2]at hp';cases hp';rw[htk,i7,ed];rfl
   ·rcases List.mem_or_eq_of_mem_set hq with h|h
    ·exact i8 q h
    ·rw[h];exact aR hy2
def akk(a:Option Addr)(n:Nat):Prop:=(a=none/\n=0)\/∃b f,a=some ⟨b,0,some f⟩
theorem akl{v:Value}{xs:List Clue}(hl:xs.length<=1000000):aQ Tryz.prog (.func 74) [v] [] [] [ah bG v xs] (λa:Option Addr=>.slice a xs.length xs.length) (λa=>[ap bG (.slice a xs.length xs.length) xs]) (λ_=>[]) (λa=>akk a xs.length):=by
 refine aK _ (aM 74) λB w0=>?_;refine FQ bG v (xs:=xs) λay hxy=>?_;have hlen:ay.length=xs.length:=by rw[<- hxy,bJ]
 refine Oj (ay:=ay) (v:=v) (E:=bG) ?_;refine VI (v:=v) (ay:=ay) bG (λe c ev=>?_) (λe i o f c ev=>?_) (λhne i o f c ev=>?_)
 ·subst e ev;have hx:xs=[]:=by rw[<- hxy];rfl
  subst hx;simp only[Aj];refine go ?_;refine(fF rfl rfl (Dk (e:=60) (by kernel_rfl) rfl)).h ?_;refine go ?_;refine lY bG ?_;exact aj none (hv:=rfl) (hp:=.inl ⟨rfl,rfl⟩)
 ·subst e ev;have hx:xs=[]:=by rw[<- hxy];rfl
  subst hx;simp only[Aj];refine go ?_;refine(fF rfl rfl (wG (e:=60) (by kernel_rfl) rfl)).h ?_;refine go ?_;intro b;refine go ?_;refine FT (b:=b) ?_;refine go ?_;refine Uw bG az.here ?_;exact aj (some ⟨b,0,some 0⟩) (hv:=rfl) (hp:=.inr ⟨b,0,rfl⟩)
 ·subst ev;refine go ?_;refine(fF rfl rfl (wG (e:=60) (by kernel_rfl) rfl)).h ?_;refine go ?_;intro b;refine go ?_;refine FU (b:=b) bG ay hne (by omega) (λb'=>?_);refine go ?_;refine ug (b:=b') (m:=ay.length) (f:=bG.n) bG (ay:=ay) rfl (.inr rfl) ?_ (hk:=az.here);refine VC (ay:=ay) hne ?_ (λw h=>h _ (by simp));rw[hxy,hlen];exact aj (some ⟨b',0,some bG.n⟩) (hv:=rfl) (hp:=.inr ⟨b',_,rfl⟩)
theorem akm:aQ Tryz.prog (.func 77) [.slice none 0 0,.func (.func 78) ⟨[]⟩ ⟨[]⟩] [] [] [] (λ_:Unit=>.slice none 0 0) (λ_=>[]) (λ_=>[]) (λ_=>True):=by
 refine aK _ (aM 77) λB w0=>?_;refine go ?_;exact aj () (hv:=rfl) (hp:=trivial)
theorem akn{v:Value}{xs:List Clue}(hl:xs.length<=1000000)(hv:∀x∈xs,x.values.length<=1000000):aQ Tryz.prog (.func 46) [v] [] [] [ah bG v xs] (λy:Value×List Clue=>.agg ⟨[y.1]⟩) (λ_=>[]) (λy=>[ah bG y.1 y.2]) (λy=>jP xs y.2):=by
 refine aK _ (aM 46) λB w0=>?_;refine go ?_;intro b2;refine go ?_;refine ak (akl (xs:=xs) hl) (next:=λa ha=>?_);refine go ?_;refine ak (akg (xs:=xs) (a:=a) (by omega) hv) (next:=λys hy=>?_);have hlen:ys.length=xs.length:=hy.1.length_eq;have hok:=agL hy.1 hy.2;refine go ?_;rcases ha with⟨rfl,h0⟩|⟨b,f,rfl⟩
 ·have hx:xs=[]:=lQ.1 h0;subst hx;have hys:ys=[]:=lQ.1 (hlen.trans h0);subst hys;refine ak akm (next:=λ_ _=>?_);refine go ?_;refine fO (ah bG (.slice none 0 0) []) (λw hw=>.inl ⟨rfl,none,0,rfl,trivial⟩) ?_;exact aj (.slice none 0 0,[]) (hv:=rfl) (hp:=hok)
 ·refine ak (aki (xs:=ys) (b:=b) (f:=f) (m:=xs.length) (by omega)) (next:=λvr _=>?_);refine bY (E:=bG) (v:=vr) (xs:=sw qo ys) (by simp) λar1 cr er=>?_;subst er;refine go ?_;exact aj (.slice ar1 (sw qo ys).length cr,sw qo ys) (hv:=rfl) (hp:=hok)
theorem YC{va vb:Value}{xs ys:List Int}(hal:xs.length<=1000000)(hbl:ys.length<=1000000):
 eG Tryz.prog 84 [va,vb] [ah ae va xs,ah ae vb ys] (.int .i64 (fG eD xs ys)):=by
 refine aK _ (aM 84) λB w0=>?_;refine go ?_;refine bQ (λk=>xs.length - k) (λk:Nat=>[(5,.int .i64 (k:Int))]) (λ_=>[]) (λ_=>[]) (λk=>k<=xs.length/\k<=ys.length/\fG eD xs ys=fG eD (xs.drop k) (ys.drop k)) 0 ⟨by omega,by omega,rfl⟩ (body:=?_);rintro k ⟨hkx,yC,qz⟩;refine go ?_;refine gG (λh1=>?_) (λh1=>?_)
 ·refine go ?_;refine aJ rfl (λh3=>?_) (λh3=>?_)
  ·refine go ?_;refine aj () (hv:=?_) (hp:=trivial);rw[qz,z8 hkx yC (by omega),if_pos (by omega)];rfl
  refine go ?_;refine aJ rfl (λh4=>?_) (λh4=>?_)
  ·refine go ?_;refine aj () (hv:=?_) (hp:=trivial);rw[qz,z8 hkx yC (by omega),if_neg (by omega),if_pos (by omega)];rfl
  refine go ?_;refine aj () (hv:=?_) (hp:=trivial);rw[qz,z8 hkx yC (by omega),if_neg (by omega),if_neg (by omega)];rfl
 refine go ?_;refine aJ rfl (λh2=>?_) (λh2=>?_)
 rotate_left
 ·refine go ?_;refine aJ rfl (λh3=>?_) (λh3=>?_)
  ·refine go ?_;refine aj () (hv:=?_) (hp:=trivial);rw[qz,z8 hkx yC (by omega),if_pos (by omega)];rfl
  refine go ?_;refine aJ rfl (λh4=>?_) (λh4=>?_)
  ·refine go ?_;refine aj () (hv:=?_) (hp:=trivial);rw[qz,z8 hkx yC (by omega),if_neg (by omega),if_pos (by omega)];rfl
  refine go ?_;refine aj () (hv:=?_) (hp:=trivial);rw[qz,z8 hkx yC (by omega),if_neg (by omega),if_neg (by omega)];rfl
 refine go ?_;intro _ _ x hx _ _ y hy;refine aJ rfl (λh3=>?_) (λh3=>?_)
 ·refine go ?_;refine aj () (hv:=?_) (hp:=trivial);rw[qz,drop_cons hx,drop_cons hy,fG,eD,if_pos h3];rfl
 refine go ?_;intro _ _ x' hx' _ _ y' hy';cases hx.symm.trans hx';cases hy.symm.trans hy';refine aJ rfl (λh4=>?_) (λh4=>?_)
 ·refine go ?_;refine aj () (hv:=?_) (hp:=trivial);rw[qz,drop_cons hx,drop_cons hy,fG,eD,if_neg h3,if_pos h4];rfl
 refine go ?_;refine bi (k+1) (by omega) ⟨by omega,by omega,?_⟩;rw[qz,drop_cons hx,drop_cons hy,fG,eD,if_neg h3,if_neg h4];rfl
theorem YD{b:Nat}{x y:Int}:qO (pt b (.cells [.int .i64 x,.int .i64 y])) [ah ae (.slice (some ⟨b,0,some 0⟩) 2 2) [x,y]]:=uX (xs:=[x,y])
def short(l:List Clue):Prop:=∀g∈l,g.values.length<=1000000
theorem akp{va vb:Value}{a b:Clue}:eG Tryz.prog 83 [pK a va,pK b vb] [] (.int .i64 (fG eD [a.aN,a.at_] [b.aN,b.at_])):=by
 refine aK _ (aM 83) λB w0=>?_;refine go ?_;intro b1 b2 b3 b4;refine aZ (YD) (h:=?_);refine aZ (YD) (h:=?_);refine ak (YC (xs:=[a.aN,a.at_]) (ys:=[b.aN,b.at_]) (by simp) (by simp)) (next:=λ_ _=>?_);refine go ?_;exact aj () (hv:=rfl) (hp:=trivial)
theorem akq{va vb:Value}{a b:Clue}(hal:a.values.length<=1000000)(hbl:b.values.length<=1000000):
 eG Tryz.prog 50 [pK a va,pK b vb] [ah ae va a.values,ah ae vb b.values] (.bool (decide (a=b))):=by
 refine aK _ (aM 50) λB w0=>?_;refine go ?_;intro b1 b2;refine ak (akp (a:=a) (b:=b)) (next:=λ_ _=>?_);refine go ?_;have hz:=(wy ww).zero [a.aN,a.at_] [b.aN,b.at_];refine gG (λh1=>?_) (λh1=>?_)
 ·refine go ?_;refine aj () (hv:=?_) (hp:=trivial);rw[dM (λe=>h1 (hz.2 (by rw[e])))];rfl
 refine go ?_;refine ak (YC hal hbl) (next:=λ_ _=>?_);refine go ?_;refine aj () (hv:=?_) (hp:=trivial);have e1:=hz.1 h1;simp only[Ai,yP]at e1;have:decide (fG eD a.values b.values=0)=decide (a=b):=by
  rw[nK,(wy ww).zero];obtain⟨c,p,l⟩:=a;obtain⟨d,q,m⟩:=b;simp only[Clue.mk.injEq]at e1⊢;exact⟨λe=>⟨e1.1,e1.2,e⟩,λe=>e.2.2⟩
 rw[<- this];rfl
theorem YE{va vb:Value}{xs ys:List Clue}(hal:xs.length<=1000000)(hx:short xs)(hy:short ys):
 eG Tryz.prog 26 [.agg ⟨[va]⟩,.agg ⟨[vb]⟩] [ah bG va xs,ah bG vb ys] (.bool (decide (xs=ys))):=by
 refine aK _ (aM 26) λB w0=>?_;refine go ?_;intro b2 b3;refine aJ rfl (λh1=>?_) (λh1=>?_)
 ·refine go ?_;refine aj () (hv:=?_) (hp:=trivial);rw[dM (λe=>h1 (by rw[e]))];rfl
 have hlen:xs.length=ys.length:=by omega
 refine go ?_;refine bQ (λk=>xs.length - k) (λk:Nat=>[(5,.int .i64 (k:Int))]) (λ_=>[]) (λ_=>[]) (λk=>k<=xs.length/\∀j,j<k->xs[j]? =ys[j]?) 0 ⟨by omega,λj hj=>by omega⟩ (body:=?_);rintro k ⟨hkx,hsame⟩;refine go ?_;refine aJ rfl (λh2=>?_) (λh2=>?_)
 ·refine go ?_;refine bZ bG (next:=λ_ _ x (vx:Value) hxk=>?_);refine go ?_;refine bZ bG (next:=λ_ _ y (vy:Value) hyk=>?_);refine go ?_;refine ak (akq (a:=x) (b:=y) (hx x (aR hxk)) (hy y (aR hyk))) (next:=λ_ _=>?_);refine go ?_;refine pz rfl (λh3=>?_) (λh3=>?_)
  ·refine go ?_;refine aj () (hv:=?_) (hp:=trivial);rw[dM (λe=>h3 (by rw[e,hyk]at hxk;cases hxk;rfl))];rfl
  refine go ?_;refine bi (k+1) (by omega) ⟨by omega,λj hj=>?_⟩;by_cases e:j=k
  ·subst e;rw[hxk,hyk,h3]
  ·exact hsame j (by omega)
 refine go ?_;refine aj () (hv:=?_) (hp:=trivial);have:xs=ys:=by
  apply iF;intro j;by_cases hj:j<k
  ·exact hsame j hj
  ·rw[fu (by omega),fu (by omega)]
 rw[fQ this];rfl
