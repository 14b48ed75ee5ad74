/-
  Slices of numbers: clones, reversed, compared, sorted while they are owned; the first list of which something holds.
-/
import Derived.Test.YtfakljdleblkoaaGreatLibGM
import Derived.Test.YtfakljdleblkoaaGreatIdealPM
import Derived.Test.YtfakljdleblkoaaGreatPlainDM
set_option linter.all false
set_option maxRecDepth 10000
set_option maxHeartbeats 4000000
namespace Go.Proofs.YtfakljdleblkoaaGreat
open Go.Ideal Kd
theorem QC{v:Value}{xs:List Int}(hl:xs.length<=1000000):aQ Tryz.prog (.func 44) [v] [] [] [ah ae v xs] (λa:Option Addr=>.slice a xs.length xs.length) (λa=>[ap ae (.slice a xs.length xs.length) xs]) (λ_=>[]) (λ_=>True):=by
 refine aK KM PP λB w0=>?_;refine FQ ae v (xs:=xs) λay hxy=>?_;have hlen:ay.length=xs.length:=by rw[<- hxy,bJ]
 refine Oj (ay:=ay) (v:=v) (E:=ae) ?_;refine VI (v:=v) (ay:=ay) ae (λe c ev=>?_) (λe i o f c ev=>?_) (λhne i o f c ev=>?_)
 ·subst e ev;have hx:xs=[]:=by rw[<- hxy];rfl
  subst hx;simp only[Aj];refine go ?_;refine(fF rfl rfl (Dk (e:=3) (by kernel_rfl) rfl)).h ?_;refine go ?_;refine lY ae ?_;exact aj none (hv:=rfl) (hp:=trivial)
 ·subst e ev;have hx:xs=[]:=by rw[<- hxy];rfl
  subst hx;simp only[Aj];refine go ?_;refine(fF rfl rfl (wG (e:=3) (by kernel_rfl) rfl)).h ?_;refine go ?_;intro b;refine go ?_;refine FT (b:=b) ?_;refine go ?_;refine Uw ae az.here ?_;exact aj (some ⟨b,0,some 0⟩) (hv:=rfl) (hp:=trivial)
 ·subst ev;refine go ?_;refine(fF rfl rfl (wG (e:=3) (by kernel_rfl) rfl)).h ?_;refine go ?_;intro b;refine go ?_;refine FU (b:=b) ae ay hne (by omega) (λb'=>?_);refine go ?_;refine ug (b:=b') (m:=ay.length) (f:=ae.n) ae (ay:=ay) rfl (.inr rfl) ?_ (hk:=az.here);refine VC (ay:=ay) hne ?_ (λw h=>h _ (by simp));rw[hxy,hlen];exact aj (some ⟨b',0,some ae.n⟩) (hv:=rfl) (hp:=trivial)
def yE(xs zs:List Int)(k:Nat):Prop:=zs.length=xs.length/\∀i,i<xs.length->zs[i]? =if i<k\/xs.length - 1 - i<k then xs[xs.length - 1 - i]? else xs[i]?
theorem yE.zero(xs:List Int):yE xs xs 0:=⟨rfl,λi hi=>by rw[if_neg (by omega)]⟩
theorem yE.step{xs zs:List Int}{k:Nat}{x y:Int}(h:yE xs zs k)(hk:k<xs.length - 1 - k)(hx:zs[k]? =some x)(hy:zs[xs.length - 1 - k]? =some y):yE xs ((zs.set k y).set (xs.length - 1 - k) x) (k+1):=by
 obtain⟨h1,h2⟩:=h;refine⟨by rw[nM,nM];exact h1,λi hi=>?_⟩;have hx':=h2 k (by omega);have hy':=h2 (xs.length - 1 - k) (by omega);rw[if_neg (by omega),hx]at hx';rw[if_neg (by omega),hy]at hy';rw[mV,nM,h1];by_cases e:xs.length - 1 - k=i
 ·rw[if_pos e,if_pos (by omega),if_pos (by omega),show xs.length - 1 - i=k by omega,hx']
 ·rw[if_neg e,mV,h1];by_cases e2:k=i
  ·subst e2;rw[if_pos rfl,if_pos hi,if_pos (by omega),hy']
  ·rw[if_neg e2,h2 i hi];by_cases c:i<k\/xs.length - 1 - i<k
   ·rw[if_pos c,if_pos (by omega)]
   ·rw[if_neg c,if_neg (by omega)]
theorem yE.done{xs zs:List Int}{k:Nat}(h:yE xs zs k)(hk:¬k<xs.length - 1 - k)(hle:2*k<=xs.length+1):zs=xs.reverse:=by
 obtain⟨h1,h2⟩:=h;apply iF;intro i;by_cases hi:i<xs.length
 ·rw[h2 i hi,List.getElem?_reverse hi];by_cases c:i<k\/xs.length - 1 - i<k
  ·rw[if_pos c]
  ·rw[if_neg c,show xs.length - 1 - i=i by omega]
 ·rw[fu (by omega),fu (by rw[Ch];omega)]
theorem akr{a:Option Addr}{c:Nat}:aQ Tryz.prog (.func 45) [.slice a 0 c] [] [] [] (λ_:Unit=>.tuple ⟨[]⟩) (λ_=>[]) (λ_=>[]) (λ_=>True):=by
 refine aK _ (aM 45) λB w0=>?_;refine go ?_;refine oJ ?_;refine go ?_;exact aj () (hv:=rfl) (hp:=trivial)
theorem aks{b f:Nat}{pre:List Value}{xs:List Int}(hl:xs.length<=1000000)(hf:f=0\/f=1):aQ Tryz.prog (.func 45) [.slice (some ⟨b,pre.length,some f⟩) xs.length xs.length] [] [pt b (.cells (pre++xs.map (.int .i64)))] [] (λ_:Unit=>.tuple ⟨[]⟩) (λ_=>[pt b (.cells (pre++xs.reverse.map (.int .i64)))]) (λ_=>[]) (λ_=>True):=by
 refine aK _ (aM 45) λB w0=>?_;refine go ?_;refine bQ (λy:Nat×List Int=>xs.length - y.1) (λy=>[(3,.int .i64 ((xs.length:Int) - 1 - (y.1:Int))),(2,.int .i64 (y.1:Int))]) (λy=>[pt b (.cells (pre++y.2.map (.int .i64)))]) (λ_=>[]) (λy=>yE xs y.2 y.1/\2*y.1<=xs.length+1) (0,xs) ⟨yE.zero xs,by show 2*0<=_;omega⟩ (hl:=by dsimp only[Int.natCast_zero];rw[Int.sub_zero];repeat (first|exact trivial|refine⟨rfl,?_⟩)) (hk:=by repeat (first|exact aO.nil|(apply aO.cons;(focus (repeat (first|exact az.here|apply az.there)))))) (body:=?_);rintro⟨k,zs⟩ ⟨hR,hle⟩;dsimp only at hR hle⊢;have hzl:=hR.1;refine go ?_;refine aJ rfl (λh1=>?_) (λh1=>?_)
 ·have hk1:k<xs.length - 1 - k:=by omega
  have hj:((xs.length:Int) - 1 - (k:Int))=((xs.length - 1 - k:Nat):Int):=by omega
  rw[hj];generalize hjj:xs.length - 1 - k=j at hk1 hj⊢;have hx:zs[k]? =some zs[k]:=bC (by omega);have hy:zs[j]? =some zs[j]:=bC (by omega);generalize zs[k]=x at hx;generalize zs[j]=z at hy;have hst:=hR.step (by omega) hx (by rw[hjj];exact hy);rw[hjj]at hst;refine go ?_;refine pF (b:=b) (o:=pre.length+j*1) (cs:=pre++zs.map (.int .i64)) (.int .i64 z) (OB hy) ?_;refine go ?_;refine pF (b:=b) (o:=pre.length+k*1) (cs:=pre++zs.map (.int .i64)) (.int .i64 x) (OB hx) ?_;refine go ?_;refine mD (b:=b) (o:=pre.length+k*1) (cs:=pre++zs.map (.int .i64)) (v:=.int .i64 z) (cs':=pre++(zs.set k z).map (.int .i64)) OC (by rw[gP,bJ];omega) ?_;refine go ?_;refine mD (b:=b) (o:=pre.length+j*1) (cs:=pre++(zs.set k z).map (.int .i64)) (v:=.int .i64 x) (cs':=pre++((zs.set k z).set j x).map (.int .i64)) OC (by rw[gP,bJ,nM];omega) ?_;refine go ?_;refine bi (k+1,(zs.set k z).set j x) (by show xs.length - (k+1)<xs.length - k;omega) ⟨hst,by show 2*(k+1)<=_;omega⟩ (hl:=by dsimp only;rw[show(xs.length:Int) - 1 - ((k+1:Nat):Int)=(j:Int) - 1 by omega];repeat (first|exact trivial|refine⟨rfl,?_⟩))
 have hz:=hR.done (by omega) hle;subst hz;refine go ?_;exact aj () (hv:=rfl) (hp:=trivial)
theorem akt{a:Option Addr}{n c:Nat}:aQ Tryz.prog (.func 70) [.slice a n c] [] [] [] (λb:Nat=>.func (.func 146) #[] #[ptr' b]) (λ_=>[]) (λb=>[bz b 0 [.slice a n c]]) (λ_=>True):=by
 refine aK Qh X6 λB w0=>?_;refine go ?_;intro b1;refine go ?_;refine aZ (dH (b:=b1)) (h:=?_);exact aj b1 (hv:=rfl) (hp:=trivial)
theorem D8{a:Option Addr}{xs:List Int}(hl:xs.length<=1000000):aQ Tryz.prog (.func 45) [.slice a xs.length xs.length] [] [ap ae (.slice a xs.length xs.length) xs] [] (λ_:Unit=>.tuple ⟨[]⟩) (λ_=>[ap ae (.slice a xs.length xs.length) xs.reverse]) (λ_=>[]) (λ_=>True):=by
 by_cases hne:0<xs.length
 ·exact aQ.afU (args:=λa=>[.slice a xs.length xs.length]) (zs:=λ_=>xs.reverse) hne (λ_=>List.length_reverse) λb f pre hf=>aks hl hf
 ·obtain rfl:xs=[]:=lQ.1 (by omega);intro B w s;obtain⟨S1,s1,back⟩:=s.Jw (k1:=[]) (aT:=[ap ae (.slice a 0 0) []]) (F1:=[]) .nil .nil;refine .rU _ (akr (a:=a) (c:=0) S1 w s1) ?_;rintro r pm h' ⟨hp,w',y,e1,st,e2,_⟩;exact⟨hp,w',(),e1,back w' _ _ st,e2,trivial⟩
theorem aku{b:Nat}{a:Option Addr}{xs:List Int}(hl:xs.length<9223372036854775808):
 Dq Tryz.prog (λx:Int=>[ja x]) (.func 146) [] [ptr' b] [ap ae (.slice a xs.length xs.length) xs] [bz b 0 [.slice a xs.length xs.length]] (λys=>ys=xs):=by
 intro S inv ok step s0 ny y1 y2 F' h0 hok hy;rw[bX,bH];refine aK Qi X7 λB w0=>?_;refine go ?_;refine bQ (λy:Nat×S=>xs.length - y.1) (λy=>[(7,.int .i64 (y.1:Int))]) (λy=>inv y.2++[ap ae (.slice a xs.length xs.length) xs]) (λ_=>[]) (λy=>y.1<=xs.length/\ok (xs.take y.1) y.2/\bS step y.2 (xs.drop y.1)=bS step s0 xs) (0,s0) ⟨dK _,h0,rfl⟩ (hk:=aO.all _) (body:=?_);rintro⟨k,s⟩ ⟨hk,hos,hrun⟩;dsimp only at hk hos hrun⊢;refine go ?_;refine aJ rfl (λh1=>?_) (λh1=>?_)
 ·have hx:xs[k]? =some xs[k]:=bC (by omega);generalize xs[k]=x at hx;have hd:xs.drop k=x::xs.drop (k+1):=by
   rw[nJ (by omega)];congr 1;rw[bC (by omega)]at hx;exact Option.some.inj hx
  have hX:xs.take k++x::xs.drop (k+1)=xs:=by rw[<- hd,mM]
  have gJ:=hy _ s _ _ hos hX;rw[hd,bS]at hrun;refine go ?_;refine VJ (v:=.slice a xs.length xs.length) (xs:=xs) k x hx (next:=λb0 o0=>?_) (hk:=az.app .here _);refine go ?_;refine ak gJ (hk:=aO.self _ _) (next:=λ_ _=>?_);cases hst:(step s x).2 with
  |true=>
   have hs1:step s x=((step s x).1,true):=Prod.ext rfl hst;rw[hs1]at hrun;refine go ?_;refine bi (k+1,(step s x).1) (by show xs.length - (k+1)<xs.length - k;omega) ⟨by show k+1<=_;omega,?_,hrun⟩ (hk:=aO.all _);show ok (xs.take (k+1)) _;rw[gZ hx];exact hok _ s _ _ hos hX hst
  |false=>
   have hs1:step s x=((step s x).1,false):=Prod.ext rfl hst;rw[hs1]at hrun;dsimp only at hrun;refine go ?_;exact aj xs (hv:=rfl) (hp:=rfl) (hk:=by rw[<- hrun];exact aO.all _)
 have hke:k=xs.length:=by omega
 subst hke;rw[Cg]at hrun;refine go ?_;exact aj xs (hv:=rfl) (hp:=rfl) (hk:=by rw[<- hrun];exact aO.all _)
theorem akv{fn:Fn}{first captured:List Value}{A:OA}{F1:List aD}{X:List Int->Prop}(hit:Dq Tryz.prog (λx:Int=>[ja x]) fn first captured [A] F1 X)(hl:∀xs,X xs->xs.length<=1000000):
 aQ Tryz.prog (.func 153) [.slice none 0 0,.func fn ⟨first⟩ ⟨captured⟩] [] [A] F1 (λy:DY=>y.v) (λy=>[ap ae y.v y.xs,A]) (λ_=>[]) (λy=>X y.xs):=by
 refine zG KD Ps λB w0=>?_;refine go ?_;intro b2;refine lY ae ?_;refine uZ (λv:Value=>[pt b2 (.cells [v]),ap ae v ([]:List Int)]) (.slice none 0 0) (h:=?_);refine afP (Z:=Nat) (λ(ys:List Int) (x:Int)=>(ys++[x],Out.normal)) (λys=>[Px ae b2 ys]) (λvs ys=>ys=vs) [] _ (λ_ _=>[]) rfl (λvs s x rest hs hX _=>by rw[hs]) hit (by intro s x lo o B w0;refine go ?_;have z0:Nat:=0;exact Bj z0 rfl) ?_ ?_ (λ_ _=>trivial)
 ·intro vs s x rest z lo L B w0 hs hx;subst hs;dsimp only[List.cons_append,List.nil_append];have hlen:s.length<=1000000:=by have:=hl _ hx;rw[gP,lN]at this;omega
  refine zF (h:=λv=>?_);refine go ?_;intro b10;refine jO (xs:=s) ae x () (by omega) (next:=λad=>?_);refine go ?_;refine uZ (λv:Value=>[pt b2 (.cells [v]),ap ae v (s++[x])]) _ (h:=?_);exact qQ () rfl trivial trivial
 ·intro r xs hX;have hrun:∀(ys zs:List Int),fM (λ(ys:List Int) (x:Int)=>(ys++[x],Out.normal)) ys zs=(ys++zs,.normal):=by
   intro ys zs;induction zs generalizing ys with
   |nil=>simp[fM]
   |cons z zs ih=>rw[fM];simp only[ih];simp
  rw[hrun,bH];dsimp only[List.cons_append,List.nil_append];refine zF (h:=λv=>?_);refine go ?_;exact u7 ⟨v,xs⟩ (hv:=rfl) (hp:=hX)
theorem akw{fn:Fn}{first captured:List Value}{A:OA}{F1:List aD}{X:List Int->Prop}(hit:Dq Tryz.prog (λx:Int=>[ja x]) fn first captured [A] F1 X)(hl:∀xs,X xs->xs.length<=1000000):
 aQ Tryz.prog (.func 101) [.func fn ⟨first⟩ ⟨captured⟩] [] [A] F1 (λy:DY=>y.v) (λy=>[ap ae y.v y.xs,A]) (λ_=>[]) (λy=>X y.xs):=by
 refine aK KE Pt λB w0=>?_;refine go ?_;refine ak (akv hit hl) (next:=λy hy=>?_);dsimp only[List.cons_append,List.nil_append];refine go ?_;exact aj y (hv:=rfl) (hp:=hy)
theorem akx{fn:Fn}{first captured:List Value}{A:OA}{F1:List aD}{X:List Int->Prop}(hit:Dq Tryz.prog (λx:Int=>[ja x]) fn first captured [A] F1 X)(hl:∀xs,X xs->xs.length<=1000000):
 aQ Tryz.prog (.func 69) [.func fn ⟨first⟩ ⟨captured⟩] [] [A] F1 (λy:DY=>y.v) (λy=>[ap ae y.v (bD y.xs),A]) (λ_=>[]) (λy=>X y.xs):=by
 refine aK PY XZ λB w0=>?_;refine go ?_;refine ak (akw hit hl) (next:=λy hy=>?_);obtain⟨v,xs⟩:=y;dsimp only[List.cons_append,List.nil_append]at hy⊢;have hlen:=hl _ hy;refine BD (E:=ae) (v:=v) (xs:=xs) λa hv=>?_;subst hv;refine go ?_;refine ak (Gg (a:=a) (zs:=xs) rfl (by omega)) (next:=λ_ _=>?_);refine go ?_;exact aj ⟨.slice a xs.length xs.length,xs⟩ (hv:=rfl) (hp:=hy)
theorem Aa{a:Option Addr}{vb:Value}{xs ys:List Int}(hal:xs.length<9223372036854775808):
 aQ Tryz.prog (.func 73) [.slice a xs.length xs.length,vb] [] [ap ae (.slice a xs.length xs.length) xs] [ah ae vb ys] (λ_:Unit=>.bool (decide (xs=ys))) (λ_=>[ap ae (.slice a xs.length xs.length) xs]) (λ_=>[]) (λ_=>True):=by
 refine aK Pw Xi λB w0=>?_;refine go ?_;refine aJ rfl (λh1=>?_) (λh1=>?_)
 ·refine go ?_;refine aj () (hv:=?_) (hp:=trivial);rw[dM (λe=>h1 (by rw[e]))];rfl
 have hlen:xs.length=ys.length:=by omega
 refine go ?_;refine bQ (λk=>xs.length - k) (λk:Nat=>[(13,.int .i64 (k:Int))]) (λ_=>[ap ae (.slice a xs.length xs.length) xs]) (λ_=>[]) (λk=>k<=xs.length/\∀j,j<k->xs[j]? =ys[j]?) 0 ⟨by omega,λj hj=>by omega⟩ (hk:=by repeat (first|exact aO.nil|(apply aO.cons;(focus (repeat (first|exact az.here|apply az.there)))))) (body:=?_);rintro k ⟨hkx,hsame⟩;refine go ?_;refine aJ rfl (λh2=>?_) (λh2=>?_)
 ·have hx:xs[k]? =some xs[k]:=bC (by omega);generalize xs[k]=x at hx;refine go ?_;refine VJ (v:=.slice a xs.length xs.length) (xs:=xs) k x hx (next:=λb0 o0=>?_);refine go ?_;intro _ _ y hy;refine go ?_;refine aJ rfl (λh3=>?_) (λh3=>?_)
  ·refine go ?_;refine aj () (hv:=?_) (hp:=trivial);rw[dM (λe=>h3 (by rw[e,hy]at hx;cases hx;rfl))];rfl
  refine go ?_;refine bi (k+1) (by omega) ⟨by omega,λj hj=>?_⟩;by_cases e:j=k
  ·subst e;rw[hx,hy,jo.1 h3]
  ·exact hsame j (by omega)
 refine go ?_;refine aj () (hv:=?_) (hp:=trivial);have:xs=ys:=by
  apply iF;intro j;by_cases hj:j<k
  ·exact hsame j hj
  ·rw[fu (by omega),fu (by omega)]
 rw[fQ this];rfl
def uB(p:List Int->Bool)(L:List (List Int)):Int:=match L.findIdx? p with
 |some i=>(i:Int)
 |none=> -1
theorem aky{p:List Int->Bool}{L:List (List Int)}{k:Nat}{x:List Int}(h:(L.take k).any p=false)(hx:L[k]? =some x)(hp:p x=true):uB p L=(k:Int):=by
 have hk:=(aW.1 hx).1;have:L.findIdx? p=some k:=by
  rw[List.findIdx?_eq_some_iff_getElem];refine⟨hk,by rw[(aW.1 hx).2];exact hp,λj hj fK=>?_⟩;have h1:=List.any_eq_false.1 h L[j] (aR (i:=j) (by rw[uF,if_pos hj];exact bC (by omega)));exact h1 fK
 unfold uB;rw[this]
theorem akz{p:List Int->Bool}{L:List (List Int)}(h:L.any p=false):uB p L= -1:=by
 have:L.findIdx? p=none:=by
  rw[List.findIdx?_eq_none_iff];intro x hx;have:=List.any_eq_false.1 h x hx;simpa using this
 unfold uB;rw[this]
theorem YF(L:List (List Int))(w:List Int):uB (λx=>decide (bD x=bD w)) L=uw L w:=rfl
theorem YG{fn:Fn}{first cap:List Value}{F1:List aD}{p:List Int->Bool}{va:Value}{xs:List (List Int)}(hl:xs.length<9223372036854775808)(hp:∀x∈xs,DZ Tryz.prog fn first cap F1 p x):
 aQ Tryz.prog (.func 71) [va,.func fn ⟨first⟩ ⟨cap⟩] [] [] (ah (aB ae) va xs::F1) (λ_:Unit=>.int .i64 (uB p xs)) (λ_=>[]) (λ_=>[]) (λ_=>True):=by
 refine aK Qj X8 λB w0=>?_;refine bY (E:=aB ae) (v:=va) (xs:=xs) (by simp) λaa ca ea=>?_;subst ea;refine go ?_;refine bQ (λk=>xs.length - k) (λk:Nat=>[(8,.int .i64 (k:Int))]) (λ_=>[]) (λ_=>[]) (λk=>k<=xs.length/\(xs.take k).any p=false) 0 ⟨by omega,by simp⟩ (body:=?_);rintro k ⟨hk,hno⟩;refine go ?_;refine aJ rfl (λh1=>?_) (λh1=>?_)
 ·refine go ?_;refine bZ (aB ae) (xs:=xs) (next:=λ_ _ x (u:Value) hx=>?_);refine go ?_;refine ak (hp x (aR hx) u) (next:=λ_ _=>?_);refine go ?_;refine wz rfl (λh2=>?_) (λh2=>?_)
  ·refine go ?_;refine aj () (hv:=?_) (hp:=trivial);rw[aky hno hx h2];rfl
  ·refine go ?_;refine bi (k+1) (by omega) ⟨by omega,?_⟩;rw[gZ hx,List.any_append,hno];simpa using h2
 have hke:k=xs.length:=by omega
 subst hke;rw[eH]at hno;refine go ?_;refine aj () (hv:=?_) (hp:=trivial);rw[akz hno];rfl
end Go.Proofs.YtfakljdleblkoaaGreat
namespace Go.Proofs.YtfakljdleblkoaaGreat
open Go.Ideal Kd
def sJ(xs:List Int):List Value:=(List.range 256).map λj:Nat=>.bool (decide ((j:Int)∈xs))
theorem YH(xs:List Int):(sJ xs).length=256:=by unfold sJ;rw[bJ,uH]
theorem akA{xs:List Int}{j:Nat}(hj:j<256):(sJ xs)[0+j*1]? =some (.bool (decide ((j:Int)∈xs))):=by
 rw[fw,pV];unfold sJ;rw[dR,uD hj];rfl
theorem akB{xs:List Int}{j:Nat}(hj:j<256):(sJ xs).set (0+j*1) (.bool true)=sJ (xs++[(j:Int)]):=by
 rw[fw,pV];apply iF;intro i;rw[mV,YH];unfold sJ;by_cases hi:i<256
 ·rw[dR,uD hi,dR,uD hi];by_cases e:j=i
  ·subst e;simp[hj]
  ·have e2:¬(i:Int)=(j:Int):=by omega
   simp[e,e2]
 ·rw[fu (by rw[bJ,uH];omega),fu (by rw[bJ,uH];omega)];by_cases e:j=i
  ·rw[if_pos e,if_neg (by omega)]
  ·rw[if_neg e]
theorem akC:sJ []=List.replicate 256 (.bool false):=by
 unfold sJ;apply iF;intro i;rw[dR,Zz];by_cases hi:i<256
 ·rw[uD hi,if_pos hi];simp
 ·rw[fu (by rw[uH];omega),if_neg hi];rfl
theorem K9{v:Value}{xs:List Int}{n:Nat}(hn:n<=256)(hl:xs.length<9223372036854775808):aQ Tryz.prog (.func 60) [v,.int .i64 (n:Int)] [] [] [ah ae v xs] (λb:Bool=>.bool b) (λ_=>[]) (λ_=>[]) (λb=>b=true↔dB n xs):=by
 refine aK _ (aM 60) λB w0=>?_;refine bY (E:=ae) (v:=v) (xs:=xs) (by simp) λav cv ev=>?_;subst ev;refine go ?_;intro b5;rw[show ([.bool false,.bool false,.bool false,.bool false,.bool false,.bool false,.bool false,.bool false,.bool false,.bool false,.bool false,.bool false,.bool false,.bool false,.bool false,.bool false,.bool false,.bool false,.bool false,.bool false,.bool false,.bool false,.bool false,.bool false,.bool false,.bool false,.bool false,.bool false,.bool false,.bool false,.bool false,.bool false,.bool false,.bool false,.bool false,.bool false,.bool false,.bool false,.bool false,.bool false,.bool false,.bool false,.bool false,.bool false,.bool false,.bool false,.bool false,.bool false,.bool false,.bool false,.bool false,.bool false,.bool false,.bool false,.bool false,.bool false,.bool false,.bool false,.bool false,.bool false,.bool false,.bool false,.bool false,.bool false,.bool false,.bool false,.bool false,.bool false,.bool false,.bool false,.bool false,.bool false,.bool false,.bool false,.bool false,.bool false,.bool false,.bool false,.bool false,.bool false,.bool false,.bool false,.bool false,.bool false,.bool false,.bool false,.bool false,.bool false,.bool false,.bool false,.bool false,.bool false,.bool false,.bool false,.bool false,.bool false,.bool false,.bool false,.bool false,.bool false,.bool false,.bool false,.bool false,.bool false,.bool false,.bool false,.bool false,.bool false,.bool false,.bool false,.bool false,.bool false,.bool false,.bool false,.bool false,.bool false,.bool false,.bool false,.bool false,.bool false,.bool false,.bool false,.bool false,.bool false,.bool false,.bool false,.bool false,.bool false,.bool false,.bool false,.bool false,.bool false,.bool false,.bool false,.bool false,.bool false,.bool false,.bool false,.bool false,.bool false,.bool false,.bool false,.bool false,.bool false,.bool false,.bool false,.bool false,.bool false,.bool false,.bool false,.bool false,.bool false,.bool false,.bool false,.bool false,.bool false,.bool false,.bool false,.bool false,.bool false,.bool false,.bool false,.bool false,.bool false,.bool false,.bool false,.bool false,.bool false,.bool false,.bool false,.bool false,.bool false,.bool false,.bool false,.bool false,.bool false,.bool false,.bool false,.bool false,.bool false,.bool false,.bool false,.bool false,.bool false,.bool false,.bool false,.bool false,.bool false,.bool false,.bool false,.bool false,.bool false,.bool false,.bool false,.bool false,.bool false,.bool false,.bool false,.bool false,.bool false,.bool false,.bool false,.bool false,.bool false,.bool false,.bool false,.bool false,.bool false,.bool false,.bool false,.bool false,.bool false,.bool false,.bool false,.bool false,.bool false,.bool false,.bool false,.bool false,.bool false,.bool false,.bool false,.bool false,.bool false,.bool false,.bool false,.bool false,.bool false,.bool false,.bool false,.bool false,.bool false,.bool false,.bool false,.bool false,.bool false,.bool false,.bool false,.bool false,.bool false,.bool false,.bool false,.bool false,.bool false,.bool false,.bool false,.bool false,.bool false,.bool false,.bool false,.bool false,.bool false,.bool false,.bool false,.bool false,.bool false]:List Value)=sJ [] from akC.symm];refine go ?_;refine bQ (λk=>xs.length - k) (λk:Nat=>[(10,.int .i64 (k:Int))]) (λk=>[pt b5 (.cells (sJ (xs.take k)))]) (λ_=>[]) (λk=>k<=xs.length/\(∀x∈xs.take k,0<=x/\x<(n:Int))/\(xs.take k).Nodup) 0 ⟨dK _,by simp,by simp⟩ (hk:=by repeat (first|exact aO.nil|(apply aO.cons;(focus (repeat (first|exact az.here|apply az.there)))))) (body:=?_);rintro k ⟨hk,hin,hnd⟩;refine go ?_;refine aJ rfl (λh1=>?_) (λh1=>?_)
 ·refine go ?_;intro _ _ x hx;have hxm:=aR hx;have htk:=gZ hx;have hno:¬(0<=x/\x<(n:Int))->∀b:Bool,b=false->(b=true↔dB n xs):=λh b hb=>⟨(λe=>by rw[hb]at e;cases e),λq=>absurd (q.dZ x hxm) h⟩
  refine go ?_;refine gG (λh2=>?_) (λh2=>?_)
  rotate_left
  ·refine go ?_;exact aj false (hv:=rfl) (hp:=hno (by omega) _ rfl)
  refine go ?_;refine gG (λh3=>?_) (λh3=>?_)
  rotate_left
  ·refine go ?_;exact aj false (hv:=rfl) (hp:=hno (by omega) _ rfl)
  obtain⟨m,rfl⟩:=eO (by omega:0<=x);refine go ?_;refine pF (b:=b5) (o:=0+m*1) (cs:=sJ (xs.take k)) (.bool (decide ((m:Int)∈xs.take k))) (akA (by omega)) ?_;refine go ?_;refine aJ rfl (λh4=>?_) (λh4=>?_)
  ·refine go ?_;refine aj false (hv:=rfl) (hp:=⟨(λh=>by cases h),λq=>?_⟩);have h5:=q.nd.sublist (LZ (k+1) xs);rw[htk,iN]at h5;exact absurd rfl (h5.2.2 _ h4 _ (bO.2 rfl))
  refine go ?_;refine mD (b:=b5) (o:=0+m*1) (cs:=sJ (xs.take k)) (v:=.bool true) (cs':=sJ (xs.take (k+1))) (by rw[akB (by omega),htk]) (by rw[YH];omega) ?_;refine go ?_;refine bi (k+1) (by omega) ⟨by omega,?_,?_⟩
  ·rw[htk];intro y hy;rcases gH.1 hy with hy|hy
   ·exact hin y hy
   ·rw[bO.1 hy];omega
  ·rw[htk,iN];exact⟨hnd,by simp,λa ha b hb=>by rw[bO.1 hb];exact λe=>h4 (e▸ha)⟩
 have hke:k=xs.length:=by omega
 subst hke;rw[eH]at hin hnd;refine go ?_;refine aj (decide ((xs.length:Int)=(n:Int))) (hv:=rfl) (hp:=?_);rw[kL];exact⟨λe=>⟨by omega,hin,hnd⟩,λq=>by have:=q.len;omega⟩
theorem YI{v:Value}{xs:List Int}{n:Nat}(hn:n<=256)(hl:xs.length<9223372036854775808):aQ Tryz.prog (.func 131) [v,.int .i64 (n:Int)] [] [] [ah ae v xs] (λe:Int=>.int .i64 e) (λ_=>[]) (λ_=>[]) (λe=>e=0↔dB n xs):=by
 refine aK _ (aM 131) λB w0=>?_;refine go ?_;refine aJ rfl (λh1=>?_) (λh1=>?_)
 ·exfalso;omega
 refine go ?_;refine ak (K9 (xs:=xs) (n:=n) hn hl) (next:=λb hb=>?_);refine go ?_;cases b with
 |false=>
  refine go ?_;exact aj 110 (hv:=rfl) (hp:=⟨(λh=>by cases h),λh=>by have:=hb.2 h;cases this⟩)
 |true=>
  refine go ?_;exact aj 0 (hv:=rfl) (hp:=⟨λ_=>hb.1 rfl,λ_=>rfl⟩)
def og(d:List Int)(n:Nat):List Int:=d++List.replicate (n - d.length) 0
theorem La{d:List Int}{n:Nat}(h:d.length<=n):(og d n).length=n:=by unfold og;rw[gP,RJ];omega
theorem YJ{d:List Int}{n k:Nat}{x:Int}(hk:k=d.length)(h:k<n):(og d n).set k x=og (d++[x]) n:=by
 subst hk;unfold og;rw[GL _ _ (bB _),vU,show n - d.length=(n - (d.length+1))+1 by omega,Eo,List.set_cons_zero,gP,yT,ed];rfl
theorem YK{d:List Int}{n:Nat}(h:d.length=n):og d n=d:=by unfold og;rw[h,vU];simp
theorem akD(n:Nat):og [] n=List.replicate n 0:=by unfold og;simp
theorem Lb(n:Nat):zeros [.int .i64 0] n=(og [] n).map (.int .i64):=by
 rw[akD];induction n with
 |zero=>rfl
 |succ n ih=>rw[Eo,fI,<- ih];rfl
theorem akE{va vb:Value}{a b:List Int}{n:Nat}(ha:a.length=n)(hb:kv n b)(hl:b.length<=1000000):aQ Tryz.prog (.func 61) [va,vb] [] [] [ah ae va a,ah ae vb b] (λbm:Nat=>.slice (some ⟨bm,0,some 0⟩) b.length b.length) (λbm=>[pt bm (.cells ((bW a b).map (.int .i64)))]) (λ_=>[]) (λ_=>True):=by
 refine aK _ (aM 61) λB w0=>?_;refine bY (E:=ae) (v:=va) (xs:=a) (by simp) λaa ca ea=>?_;subst ea;refine bY (E:=ae) (v:=vb) (xs:=b) (by simp) λab cb eb=>?_;subst eb;refine go ?_;refine xN b.length ⟨by omega,by omega,by omega⟩ λbm=>?_;rw[Lb];refine go ?_;refine bQ (λk=>b.length - k) (λk:Nat=>[(13,.int .i64 (k:Int))]) (λk=>[pt bm (.cells ((og (bW a (b.take k)) b.length).map (.int .i64)))]) (λ_=>[]) (λk=>k<=b.length) 0 (dK _) (hk:=by repeat (first|exact aO.nil|(apply aO.cons;(focus (repeat (first|exact az.here|apply az.there)))))) (body:=?_);intro k hk;have hcl:(bW a (b.take k)).length=k:=by unfold bW;rw[bJ,iL];omega
 refine go ?_;refine aJ rfl (λh1=>?_) (λh1=>?_)
 ·refine go ?_;intro _ _ x hx;have nY:=hb x (aR hx);obtain⟨m,rfl⟩:=eO nY.1;refine go ?_;intro _ _ z hz;have hzg:=jJ hz;have htk:bW a (b.take (k+1))=bW a (b.take k)++[z]:=by
   unfold bW;rw[gZ hx,di,j5,hzg]
  refine go ?_;refine mD (b:=bm) (o:=0+k*1) (cs:=(og (bW a (b.take k)) b.length).map (.int .i64)) (v:=.int .i64 z) (cs':=(og (bW a (b.take (k+1))) b.length).map (.int .i64)) (by rw[fw,pV,<- Ao,YJ hcl.symm (by omega),htk]) (by rw[bJ,La (by omega)];omega) ?_;refine go ?_;exact bi (k+1) (by omega) (by omega)
 have hke:k=b.length:=by omega
 subst hke;rw[eH]at hcl⊢;rw[YK hcl];refine go ?_;exact aj bm (hv:=rfl) (hp:=trivial)
theorem akF{bm:Nat}{a b:List Int}:qO (pt bm (.cells ((bW a b).map (.int .i64)))) [ah ae (.slice (some ⟨bm,0,some 0⟩) b.length b.length) (bW a b)]:=by
 have hl:(bW a b).length=b.length:=by unfold bW;rw[bJ]
 have:=uX (b:=bm) (f:=0) (c:=b.length) (xs:=bW a b) (hc:=by rw[hl];exact bB _);rw[hl]at this;exact this
def BN(a b:List Int):Prop:=a.length<=256/\dB a.length a/\dB a.length b
theorem YL{va vb:Value}{a b:List Int}(ha:a.length<9223372036854775808)(hb:b.length<9223372036854775808):aQ Tryz.prog (.func 36) [va,vb] [] [] [ah ae va a,ah ae vb b] (λy:Value×Int=>.tuple ⟨[y.1,.int .i64 y.2]⟩) (λ_=>[])
 (λy=>[iT (y.2=0) (ah ae y.1 (bW a b))]) (λy=>(y.2=0↔BN a b)/\(y.2≠0->y=(.slice none 0 0,110))):=by
 have hend:¬BN a b->((110:Int)=0↔BN a b)/\((110:Int)≠0->((Value.slice none 0 0,(110:Int)):Value×Int)=(.slice none 0 0,110)):=λh=>⟨⟨(λe=>by cases e),λe=>absurd e h⟩,λ_=>rfl⟩
 refine aK _ (aM 36) λB w0=>?_;refine bY (E:=ae) (v:=va) (xs:=a) (by simp) λaa ca ea=>?_;subst ea;refine go ?_;refine gG (λh1=>?_) (λh1=>?_)
 rotate_left
 ·refine go ?_;refine nZ (c:=(110:Int)=0) (f:=ah ae (.slice none 0 0) (bW a b)) (by simp) ?_;exact aj (.slice none 0 0,110) (hv:=rfl) (hp:=hend λh=>by have:=h.1;omega)
 have hal:a.length<=256:=by omega
 refine go ?_;refine ak (K9 (xs:=a) (n:=a.length) hal ha) (next:=λc hc=>?_);refine go ?_;cases c with
 |false=>
  refine go ?_;refine nZ (c:=(110:Int)=0) (f:=ah ae (.slice none 0 0) (bW a b)) (by simp) ?_;exact aj (.slice none 0 0,110) (hv:=rfl) (hp:=hend λh=>by have:=hc.2 h.2.1;cases this)
 |true=>
 have hpa:=hc.1 rfl;refine go ?_;refine ak (K9 (xs:=b) (n:=a.length) hal hb) (next:=λc2 hc2=>?_);refine go ?_;cases c2 with
 |false=>
  refine go ?_;refine nZ (c:=(110:Int)=0) (f:=ah ae (.slice none 0 0) (bW a b)) (by simp) ?_;exact aj (.slice none 0 0,110) (hv:=rfl) (hp:=hend λh=>by have:=hc2.2 h.2.2;cases this)
 |true=>
 have hpb:=hc2.1 rfl;refine go ?_;refine ak (akE (a:=a) (b:=b) (n:=a.length) rfl hpb.dZ (by have:=hpb.len;omega)) (next:=λbm _=>?_);refine aZ (akF (bm:=bm) (a:=a) (b:=b)) (h:=?_);refine go ?_;refine qy (c:=(0:Int)=0) (f:=ah ae (.slice (some ⟨bm,0,some 0⟩) b.length b.length) (bW a b)) (by simp) ?_;exact aj (.slice (some ⟨bm,0,some 0⟩) b.length b.length,0) (hv:=rfl) (hp:=⟨⟨λ_=>⟨hal,hpa,hpb⟩,λ_=>rfl⟩,λh=>absurd rfl h⟩)
def yF(p:List Int):Prop:=p.length<=256/\dB p.length p
theorem akH{p zs:List Int}(h:dB p.length p)(hl:zs.length=p.length)(hz:∀(i:Nat) x,p[i]? =some x->zs[x.toNat]? =some (i:Int)):zs=dz p:=by
 apply iF;intro j;by_cases hj:j<p.length
 ·obtain⟨c,c0,c1,hc⟩:=h.onto (y:=(j:Int)) (by omega) (by omega);have h1:=vD (p:=p) c0 (by omega);rw[hc]at h1;have h2:=hz _ _ h1;rw[eX,rE c0]at h2;have h3:=vD (p:=dz p) (c:=(j:Int)) (by omega) (by rw[wM];omega);rw[<- hc,h.uu c0 c1,hc,eX]at h3;rw[h2,h3]
 ·rw[fu (by omega),fu (by rw[wM];omega)]
theorem YM{vp:Value}{p:List Int}(hp:p.length<9223372036854775808):aQ Tryz.prog (.func 38) [vp] [] [] [ah ae vp p] (λy:Value×Int=>.tuple ⟨[y.1,.int .i64 y.2]⟩) (λ_=>[])
 (λy=>[iT (y.2=0) (ah ae y.1 (dz p))]) (λy=>(y.2=0↔yF p)/\(y.2≠0->y=(.slice none 0 0,110))):=by
 have hend:¬yF p->((110:Int)=0↔yF p)/\((110:Int)≠0->((Value.slice none 0 0,(110:Int)):Value×Int)=(.slice none 0 0,110)):=λh=>⟨⟨(λe=>by cases e),λe=>absurd e h⟩,λ_=>rfl⟩
 refine aK _ (aM 38) λB w0=>?_;refine bY (E:=ae) (v:=vp) (xs:=p) (by simp) λaa ca ea=>?_;subst ea;refine go ?_;refine gG (λh1=>?_) (λh1=>?_)
 rotate_left
 ·refine go ?_;refine nZ (c:=(110:Int)=0) (f:=ah ae (.slice none 0 0) (dz p)) (by simp) ?_;exact aj (.slice none 0 0,110) (hv:=rfl) (hp:=hend λh=>by have:=h.1;omega)
 have hpl:p.length<=256:=by omega
 refine go ?_;refine ak (K9 (xs:=p) (n:=p.length) hpl hp) (next:=λc hc=>?_);refine go ?_;cases c with
 |false=>
  refine go ?_;refine nZ (c:=(110:Int)=0) (f:=ah ae (.slice none 0 0) (dz p)) (by simp) ?_;exact aj (.slice none 0 0,110) (hv:=rfl) (hp:=hend λh=>by have:=hc.2 h.2;cases this)
 |true=>
 have Gs:=hc.1 rfl;refine go ?_;refine xN p.length ⟨by omega,by omega,by omega⟩ λbm=>?_;rw[Lb];refine go ?_;refine bQ (λy:Nat×List Int=>p.length - y.1) (λy=>[(21,.int .i64 (y.1:Int))]) (λy=>[pt bm (.cells (y.2.map (.int .i64)))]) (λ_=>[]) (λy=>y.1<=p.length/\y.2.length=p.length/\∀(i:Nat) x,i<y.1->p[i]? =some x->y.2[x.toNat]? =some (i:Int)) (0,og [] p.length) ⟨dK _,La (dK _),λi x hi=>absurd hi (GR _)⟩ (hk:=by repeat (first|exact aO.nil|(apply aO.cons;(focus (repeat (first|exact az.here|apply az.there)))))) (body:=?_);rintro⟨k,zs⟩ ⟨hk,hzl,hz⟩;dsimp only at hk hzl hz⊢;refine go ?_;refine aJ rfl (λh2=>?_) (λh2=>?_)
 ·refine go ?_;intro _ _ x hx;have nY:=Gs.dZ x (aR hx);obtain⟨m,rfl⟩:=eO nY.1;refine go ?_;refine mD (b:=bm) (o:=0+m*1) (cs:=zs.map (.int .i64)) (v:=.int .i64 (k:Int)) (cs':=(zs.set m (k:Int)).map (.int .i64)) (by rw[fw,pV,Ao]) (by rw[bJ];omega) ?_;refine go ?_;refine bi (k+1,zs.set m (k:Int)) (by show p.length - (k+1)<p.length - k;omega) ⟨by dsimp only;omega,by rw[nM];exact hzl,λi z hi hpi=>?_⟩;dsimp only at hi⊢;by_cases e:i=k
  ·subst e;rw[hx]at hpi;cases hpi;rw[eX,mV,if_pos rfl,if_pos (by omega)]
  ·have:=hz i z (by omega) hpi;rw[mV,if_neg (λq=>e ?_)]
   ·exact this
   ·have hzr:=Gs.dZ z (aR hpi);have Mv:z=(m:Int):=by omega
    subst Mv;exact Dy Gs.nd hpi hx
 have hke:k=p.length:=by omega
 subst hke;have hfin:zs=dz p:=akH Gs hzl λi x hx=>hz i x (aW.1 hx).1 hx;subst hfin;refine aZ (A:=pt bm (.cells ((dz p).map (.int .i64)))) (fs:=[ah ae (.slice (some ⟨bm,0,some 0⟩) p.length p.length) (dz p)]) (by have:=uX (b:=bm) (f:=0) (c:=p.length) (xs:=dz p) (hc:=by rw[wM];exact bB _);rw[wM]at this;exact this) (h:=?_);refine go ?_;refine qy (c:=(0:Int)=0) (f:=ah ae (.slice (some ⟨bm,0,some 0⟩) p.length p.length) (dz p)) (by simp) ?_;exact aj (.slice (some ⟨bm,0,some 0⟩) p.length p.length,0) (hv:=rfl) (hp:=⟨⟨λ_=>⟨hpl,Gs⟩,λ_=>rfl⟩,λh=>absurd rfl h⟩)
end Go.Proofs.YtfakljdleblkoaaGreat
namespace Go.Proofs.YtfakljdleblkoaaGreat
open Go.Ideal Kd
abbrev QD:List Value:=[.slice none 0 0,.slice none 0 0]
theorem Lc{v:Value}{e:Int}:oL Tryz.prog (.func 35) [v,.int .i64 e] [] [] [] (λy:Bool=>if y=true then .ok v else .fT (pQ 230)) (λ_=>[]) (λ_=>[]) (λy=>y=true↔e=0):=by
 refine vz _ (aM 35) λB w0=>?_;refine go ?_;refine aJ rfl (λh1=>?_) (λh1=>?_)
 ·refine go ?_;refine Bg ?_;refine go ?_;exact zI false (hv:=rfl) (hp:=⟨(λh=>by cases h),λh=>absurd h h1⟩)
 ·refine go ?_;exact zH true (hv:=rfl) (hp:=⟨λ_=>jo.1 h1,λ_=>rfl⟩)
theorem akI{b:Nat}:Dh Tryz.prog (.func 34) [ptr' b] [] .returning [] [] (λ_:Unit=>.ok (.tuple ⟨[]⟩)) (λ_=>.returning) (λ_=>[]) (λ_=>[]) (λ_=>True):=by
 refine Jv _ (aM 34) λB w0=>?_;refine go ?_;refine Jy (v:=.nilIface) (m':=.returning) rfl ?_;refine go ?_;refine(fF (v:=.bool false) rfl rfl (λh=>by
  show(match kD Tryz.prog .neq 20 (.tmp 4) (.const .nilIface) .nilIface .nilIface with|some v=>some (v,h)|none=>none)=_;rw[show kD Tryz.prog .neq 20 (.tmp 4) (.const .nilIface) .nilIface .nilIface=some (.bool false)by kernel_rfl])).h ?_
 refine go ?_;exact JA () (hv:=rfl) (hm:=rfl) (hp:=trivial)
theorem akJ{b:Nat}:Dh Tryz.prog (.func 34) [ptr' b] [] (.panicking (pQ 230)) [pt b (.cells [.int .i64 0])] [] (λ_:Unit=>.ok (.tuple ⟨[]⟩)) (λ_=>.panicking [{v:=.iface 40 (.int .i64 230),recovered:=true}])
 (λ_=>[pt b (.cells [.int .i64 230])]) (λ_=>[]) (λ_=>True):=by
 refine Jv _ (aM 34) λB w0=>?_;refine go ?_;refine Jy (v:=.iface 40 (.int .i64 230)) (m':=.panicking [{v:=.iface 40 (.int .i64 230),recovered:=true}]) rfl ?_;refine go ?_;refine(fF (v:=.bool true) rfl rfl (λh=>by
  show(match kD Tryz.prog .neq 20 (.tmp 4) (.const .nilIface) (.iface 40 (.int .i64 230)) .nilIface with|some v=>some (v,h)|none=>none)=_;rw[show kD Tryz.prog .neq 20 (.tmp 4) (.const .nilIface) (.iface 40 (.int .i64 230)) .nilIface=some (.bool true)by kernel_rfl])).h ?_
 refine go ?_;exact JA () (hv:=rfl) (hm:=rfl) (hp:=trivial)
structure QE where
 ok:Bool
 c:Value
 s:Value
abbrev D9(y:QE):Value:=.tuple ⟨[.agg ⟨cond y.ok [y.c,y.s] QD⟩,.int .i64 (cond y.ok 0 230)]⟩
abbrev yG(x z:List Int)(y:QE):List aD:=cond y.ok [ah ae y.c x,ah ae y.s z] []
section
variable {B:List Nat} {w0:Wd} {kl Ab k2r:List OA} {F:List aD} {l:List (Nat×Value)} {b4 b5:Nat} {n i4 i5:Nat} {code:gU} {x z:List Int} {pr:QE->Prop}
theorem Ld(hc:code.results=[.nN 2 i4,.cell1 i5])(hp:pr ⟨false,.nilFunc,.nilFunc⟩)(h2:lk l i4=ptr' b4)(h3:lk l i5=ptr' b5)(hk:az (pt b5 (.cells [.int .i64 0])) kl Ab)(hk2:az (pt b4 (.cells QD)) Ab k2r):
 R (λh=>pE Tryz.prog code (xP B w0 (λy=>.ok (D9 y)) (λ_=>[]) (yG x z) pr) (.panic (pQ 230)) (act n l [{target:=.fn (.func 34) ⟨[]⟩,args:=⟨[ptr' b5]⟩}] none none) h) B w0 kl F:=by
 refine Bh (m:=.panicking (pQ 230)) ?_;refine Jz (k1:=[pt b5 (.cells [.int .i64 0])]) (aT:=Ab) (dS:=λ_=>[pt b5 (.cells [.int .i64 230])]++Ab) (F2:=λ_=>F) (akJ (b:=b5)) (λy v _ _=>?_) (λy ch _ hc=>by cases hc) (hk:=.cons hk .nil) (hF:=.nil) (hk2:=λ_=>aX.app) (hF2:=λ_=>aX.nil);show RL _ _ _ _ .returning _ _ _ _ _;refine JB (aT:=[pt b5 (.cells [.int .i64 230])]++Ab) (vs:=[.agg ⟨QD⟩,.int .i64 230]) ⟨false,.nilFunc,.nilFunc⟩ rfl hp (hr:=?_) (hk:=.nil) (hF:=.nil);rw[hc];exact .nN h2 (.there hk2) rfl (.cell1 h3 .here rfl .nil)
theorem YN{vc vs:Value}{o:Out}(hc:code.results=[.nN 2 i4,.cell1 i5])(ho:tq o=some .returning)(hp:pr ⟨true,vc,vs⟩)(hF:∀w,(∀f∈F,f.p w)->∀f∈yG x z ⟨true,vc,vs⟩,f.p w)(h2:lk l i4=ptr' b4)(h3:lk l i5=ptr' b5)(hk:aO [pt b5 (.cells [.int .i64 0]),pt b4 (.cells [vc,vs])] kl Ab):
 R (λh=>pE Tryz.prog code (xP B w0 (λy=>.ok (D9 y)) (λ_=>[]) (yG x z) pr) o (act n l [{target:=.fn (.func 34) ⟨[]⟩,args:=⟨[ptr' b5]⟩}] none none) h) B w0 kl F:=by
 refine Bh (m:=.returning) ?_ ho;refine Jz (k1:=[]) (aT:=kl) (dS:=λ_=>kl) (F2:=λ_=>F) (akI (b:=b5)) (λ_ v _ _=>?_) (λ_ ch _ hc=>by cases hc) (hk:=.nil) (hF:=.nil) (hk2:=λ_=>aX.nil) (hF2:=λ_=>aX.nil);show RL _ _ _ _ .returning _ _ _ _ _;intro w s;have s':St B w0 ([pt b5 (.cells [.int .i64 0]),pt b4 (.cells [vc,vs])]++Ab) (yG x z ⟨true,vc,vs⟩) w:=by
  have:=s.jy hk;exact⟨this.agree,this.le,this.fE,this.own,hF w this.facts⟩
 refine JB (F:=yG x z ⟨true,vc,vs⟩) (aT:=[pt b5 (.cells [.int .i64 0]),pt b4 (.cells [vc,vs])]++Ab) (vs:=[.agg ⟨[vc,vs]⟩,.int .i64 0]) ⟨true,vc,vs⟩ rfl hp (hr:=?_) (hk:=.nil) (hF:=?_) w s'
 ·rw[hc];exact .nN h2 (.there .here) rfl (.cell1 h3 .here rfl .nil)
 ·have:∀k:List aD,Sub k k:=λk=>by
   have:=Sub.refl' k [];simpa using this
  exact this _
end
theorem akL{s t s2 t2:List Int}{vc vs P6 vs2:Value}(h1:s2.length<9223372036854775808)(h2:s.length<9223372036854775808)(h3:t2.length<9223372036854775808)(h4:t.length<9223372036854775808):
 aQ Tryz.prog (.func 15) [.agg ⟨[P6,vs2]⟩,.agg ⟨[vc,vs]⟩] [] [] [ah ae P6 s2,ah ae vs2 t2,ah ae vc s,ah ae vs t] D9 (λ_=>[]) (yG (bW s2 s) (bW t2 t)) (λy=>y.ok=true↔BN s2 s/\BN t2 t):=by
 refine oL.toC _ ?_ (λ_ _=>rfl);refine vz _ (aM 15) λB w0=>?_;refine go ?_;intro b2 b3 b4 b5;refine go ?_;refine Oa ?_;refine go ?_;refine ak (YL (a:=s2) (b:=s) h1 h2) (next:=λy1 hy1=>?_);obtain⟨v12,e12⟩:=y1;obtain⟨hy1,hn1⟩:=hy1;dsimp only at hy1 hn1⊢;refine go ?_;refine ql (Lc (v:=v12) (e:=e12)) (λy v hy e=>?_) (λy ch hy e=>?_)
 rotate_left
 ·cases y with
  |true=>cases e
  |false=>
   injection e with e;subst e;have hno:¬BN s2 s:=λh=>by have:=hy.2 (hy1.2 h);cases this
   refine go ?_;exact Ld rfl ⟨(λh=>by cases h),λh=>absurd h.1 hno⟩ rfl rfl (by repeat (first|exact az.here|apply az.there)) (by repeat (first|exact az.here|apply az.there))
 cases y with
 |false=>cases e
 |true=>
 injection e with e;subst e;have he:=hy.1 rfl;subst he;have hok1:=hy1.1 rfl;clear hy hy1 hn1;refine fO (ah ae v12 (bW s2 s)) (λw hw=>hw (iT ((0:Int)=0) (ah ae v12 (bW s2 s))) (by simp) rfl) ?_;refine go ?_;refine ak (YL (a:=t2) (b:=t) h3 h4) (next:=λy1 hy1=>?_);obtain⟨v20,e20⟩:=y1;obtain⟨hy1,hn1⟩:=hy1;dsimp only at hy1 hn1⊢;refine go ?_;refine ql (Lc (v:=v20) (e:=e20)) (λy v hy e=>?_) (λy ch hy e=>?_)
 rotate_left
 ·cases y with
  |true=>cases e
  |false=>
   injection e with e;subst e;have hno:¬BN t2 t:=λh=>by have:=hy.2 (hy1.2 h);cases this
   refine go ?_;exact Ld rfl ⟨(λh=>by cases h),λh=>absurd h.2 hno⟩ rfl rfl (by repeat (first|exact az.here|apply az.there)) (by repeat (first|exact az.here|apply az.there))
 cases y with
 |false=>cases e
 |true=>
 injection e with e;subst e;have he:=hy.1 rfl;subst he;have hok2:=hy1.1 rfl;clear hy hy1 hn1;refine fO (ah ae v20 (bW t2 t)) (λw hw=>hw (iT ((0:Int)=0) (ah ae v20 (bW t2 t))) (by simp) rfl) ?_;refine bY (E:=ae) (v:=v12) (xs:=bW s2 s) (by simp) λa1 c1 Gn=>?_;subst Gn;refine bY (E:=ae) (v:=v20) (xs:=bW t2 t) (by simp) λa2 c2 QF=>?_;subst QF;refine go ?_;refine YN (vc:=.slice a1 (bW s2 s).length c1) (vs:=.slice a2 (bW t2 t).length c2) rfl rfl ⟨λ_=>⟨hok1,hok2⟩,λ_=>rfl⟩ (λw h f hf=>?_) rfl rfl (by repeat (first|exact aO.nil|(apply aO.cons;(focus (repeat (first|exact az.here|apply az.there))))));have hf:f∈[ah ae (.slice a1 (bW s2 s).length c1) (bW s2 s),ah ae (.slice a2 (bW t2 t).length c2) (bW t2 t)]:=hf;rcases bN.1 hf with rfl|hf
 ·exact h _ (by simp)
 ·rw[bO.1 hf];exact h _ (by simp)
theorem akM{s t:List Int}{vc vs:Value}(h1:s.length<9223372036854775808)(h2:t.length<9223372036854775808):
 aQ Tryz.prog (.func 17) [.agg ⟨[vc,vs]⟩] [] [] [ah ae vc s,ah ae vs t] D9 (λ_=>[]) (yG (dz s) (dz t)) (λy=>y.ok=true↔yF s/\yF t):=by
 refine oL.toC _ ?_ (λ_ _=>rfl);refine vz _ (aM 17) λB w0=>?_;refine go ?_;intro b1 b2 b3;refine go ?_;refine Oa ?_;refine go ?_;refine ak (YM (p:=s) h1) (next:=λy1 hy1=>?_);obtain⟨v12,e12⟩:=y1;obtain⟨hy1,hn1⟩:=hy1;dsimp only at hy1 hn1⊢;refine go ?_;refine ql (Lc (v:=v12) (e:=e12)) (λy v hy e=>?_) (λy ch hy e=>?_)
 rotate_left
 ·cases y with
  |true=>cases e
  |false=>
   injection e with e;subst e;have hno:¬yF s:=λh=>by have:=hy.2 (hy1.2 h);cases this
   refine go ?_;exact Ld rfl ⟨(λh=>by cases h),λh=>absurd h.1 hno⟩ rfl rfl (by repeat (first|exact az.here|apply az.there)) (by repeat (first|exact az.here|apply az.there))
 cases y with
 |false=>cases e
 |true=>
 injection e with e;subst e;have he:=hy.1 rfl;subst he;have hok1:=hy1.1 rfl;clear hy hy1 hn1;refine fO (ah ae v12 (dz s)) (λw hw=>hw (iT ((0:Int)=0) (ah ae v12 (dz s))) (by simp) rfl) ?_;refine go ?_;refine ak (YM (p:=t) h2) (next:=λy1 hy1=>?_);obtain⟨v20,e20⟩:=y1;obtain⟨hy1,hn1⟩:=hy1;dsimp only at hy1 hn1⊢;refine go ?_;refine ql (Lc (v:=v20) (e:=e20)) (λy v hy e=>?_) (λy ch hy e=>?_)
 rotate_left
 ·cases y with
  |true=>cases e
  |false=>
   injection e with e;subst e;have hno:¬yF t:=λh=>by have:=hy.2 (hy1.2 h);cases this
   refine go ?_;exact Ld rfl ⟨(λh=>by cases h),λh=>absurd h.2 hno⟩ rfl rfl (by repeat (first|exact az.here|apply az.there)) (by repeat (first|exact az.here|apply az.there))
 cases y with
 |false=>cases e
 |true=>
 injection e with e;subst e;have he:=hy.1 rfl;subst he;have hok2:=hy1.1 rfl;clear hy hy1 hn1;refine fO (ah ae v20 (dz t)) (λw hw=>hw (iT ((0:Int)=0) (ah ae v20 (dz t))) (by simp) rfl) ?_;refine bY (E:=ae) (v:=v12) (xs:=dz s) (by simp) λa1 c1 Gn=>?_;subst Gn;refine bY (E:=ae) (v:=v20) (xs:=dz t) (by simp) λa2 c2 QF=>?_;subst QF;refine go ?_;refine YN (vc:=.slice a1 (dz s).length c1) (vs:=.slice a2 (dz t).length c2) rfl rfl ⟨λ_=>⟨hok1,hok2⟩,λ_=>rfl⟩ (λw h f hf=>?_) rfl rfl (by repeat (first|exact aO.nil|(apply aO.cons;(focus (repeat (first|exact az.here|apply az.there))))));have hf:f∈[ah ae (.slice a1 (dz s).length c1) (dz s),ah ae (.slice a2 (dz t).length c2) (dz t)]:=hf;rcases bN.1 hf with rfl|hf
 ·exact h _ (by simp)
 ·rw[bO.1 hf];exact h _ (by simp)
