/-
  Part LibMW.
-/
import Derived.Test.YtfakljdleblkoaaGreatLibGW
import Derived.Test.YtfakljdleblkoaaGreatIdealPW
import Derived.Test.YtfakljdleblkoaaGreatPlainDW
set_option linter.all false
set_option maxRecDepth 10000
set_option maxHeartbeats 4000000
namespace Go.Proofs.YtfakljdleblkoaaGreat
open Go.Ideal Kd
variable{xs:List Int}{v:Value}
theorem Vk(hl:xs.length<=1000000):aU Tryz.prog (.func 44) [v] [] [] [ai ae v xs] (λa:Option Addr=>.slice a xs.length xs.length) (λa=>[ap ae (.slice a xs.length xs.length) xs]) (λ_=>[]) (λ_=>True):=by
 refine aH Jg NA λB w0=>?_;refine Ig ae v (xs:=xs) λaF hxy=>?_;have hlen:aF.length=xs.length:=by rw[<- hxy,cz]
 refine Sc (aF:=aF) (v:=v) (E:=ae) ?_;refine acM (v:=v) (aF:=aF) ae (λe c ev=>?_) (λe i o f c ev=>?_) (λhne i o f c ev=>?_)
 ·subst e ev;have hx:xs=[]:=by rw[<- hxy];rfl
  subst hx;simp only[CQ];refine go ?_;refine(fq rfl rfl (Ex (e:=3) vA rfl)).h ?_;refine go ?_;refine gH ae ?_;exact ah none (hv:=rfl) (hp:=trivial)
 ·subst e ev;have hx:xs=[]:=by rw[<- hxy];rfl
  subst hx;simp only[CQ];refine go ?_;refine(fq rfl rfl (yK (e:=3) vA rfl)).h ?_;refine go ?_;intro b;refine go ?_;refine Ii (b:=b) ?_;refine go ?_;refine LZ ae ay.here ?_;exact ah (some ⟨b,0,some 0⟩) (hv:=rfl) (hp:=trivial)
 ·subst ev;refine go ?_;refine(fq rfl rfl (yK (e:=3) vA rfl)).h ?_;refine go ?_;intro b;refine go ?_;refine Ij (b:=b) ae aF hne vj (λb'=>?_);refine go ?_;refine sQ (b:=b') (m:=aF.length) (f:=ae.n) ae (aF:=aF) rfl (.inr rfl) ?_ (hk:=ay.here);refine SL (aF:=aF) hne ?_ (λw h=>h _ vm);rw[hxy,hlen];exact ah (some ⟨b',0,some ae.n⟩) (hv:=rfl) (hp:=trivial)
def xG(xs zs:List Int)(k:Nat):Prop:=zs.length=xs.length/\∀i,i<xs.length->zs[i]? =if i<k\/xs.length - 1 - i<k then xs[xs.length - 1 - i]? else xs[i]?
theorem xG.zero(xs:List Int):xG xs xs 0:=⟨rfl,λi hi=>by rw[if_neg vj]⟩
variable{zs:List Int}{k:Nat}{x:Int}
theorem xG.step{y:Int}(h:xG xs zs k)(hk:k<xs.length - 1 - k)(hx:zs[k]? =some x)(hy:zs[xs.length - 1 - k]? =some y):xG xs ((zs.set k y).set (xs.length - 1 - k) x) (k+1):=by
 obtain⟨h1,h2⟩:=h;refine⟨by rw[uX,uX];exact h1,λi hi=>?_⟩;have hx':=h2 k vj;have hy':=h2 (xs.length - 1 - k) vj;rw[if_neg vj,hx]at hx';rw[if_neg vj,hy]at hy';rw[o9,uX,h1];by_cases e:xs.length - 1 - k=i
 ·rw[if_pos e,if_pos vj,if_pos vj,show xs.length - 1 - i=k by omega,hx']
 ·rw[if_neg e,o9,h1];by_cases e2:k=i
  ·subst e2;rw[if_pos rfl,if_pos hi,if_pos vj,hy']
  ·rw[if_neg e2,h2 i hi];by_cases c:i<k\/xs.length - 1 - i<k
   ·rw[if_pos c,if_pos vj]
   ·rw[if_neg c,if_neg vj]
theorem xG.done(h:xG xs zs k)(hk:¬k<xs.length - 1 - k)(hle:2*k<=xs.length+1):zs=xs.reverse:=by
 obtain⟨h1,h2⟩:=h;apply jv;intro i;by_cases hi:i<xs.length
 ·rw[h2 i hi,List.getElem?_reverse hi];by_cases c:i<k\/xs.length - 1 - i<k
  ·rw[if_pos c]
  ·rw[if_neg c,show xs.length - 1 - i=i by omega]
 ·rw[gJ vj,gJ (by rw[FN];omega)]
variable{c:Nat}{a:Option Addr}
theorem agd:aU Tryz.prog (.func 45) [.slice a 0 c] [] [] [] (λ_:Unit=>.tuple ⟨[]⟩) (λ_=>[]) (λ_=>[]) (λ_=>True):=by
 refine aH _ (aN 45) λB w0=>?_;refine go ?_;refine oh ?_;refine go ?_;exact ah () (hv:=rfl) (hp:=trivial)
variable{b:Nat}
theorem age{f:Nat}{pre:List Value}(hl:xs.length<=1000000)(hf:f=0\/f=1):aU Tryz.prog (.func 45) [.slice (some ⟨b,pre.length,some f⟩) xs.length xs.length] [] [pt b (.cells (pre++xs.map (.int .i64)))] [] (λ_:Unit=>.tuple ⟨[]⟩) (λ_=>[pt b (.cells (pre++xs.reverse.map (.int .i64)))]) (λ_=>[]) (λ_=>True):=by
 refine aH _ (aN 45) λB w0=>?_;refine go ?_;refine aW (λy:Nat×List Int=>xs.length - y.1) (λy=>[(3,.int .i64 ((xs.length:Int) - 1 - (y.1:Int))),(2,.int .i64 (y.1:Int))]) (λy=>[pt b (.cells (pre++y.2.map (.int .i64)))]) (λ_=>[]) (λy=>xG xs y.2 y.1/\2*y.1<=xs.length+1) (0,xs) ⟨xG.zero xs,by show 2*0<=_;omega⟩ (hl:=Cl) (hk:=we) (body:=?_);rintro⟨k,zs⟩ ⟨hR,hle⟩;dsimp only at hR hle⊢;have hzl:=hR.1;refine go ?_;refine az rfl (λh1=>?_) (λh1=>?_)
 ·have hk1:k<xs.length - 1 - k:=by omega
  have hj:((xs.length:Int) - 1 - (k:Int))=((xs.length - 1 - k:Nat):Int):=vj
  rw[hj];generalize hjj:xs.length - 1 - k=j at hk1 hj⊢;have hx:zs[k]? =some zs[k]:=bW vj;have hy:zs[j]? =some zs[j]:=bW vj;generalize zs[k]=x at hx;generalize zs[j]=z at hy;have hst:=hR.step vj hx (by rw[hjj];exact hy);rw[hjj]at hst;refine go ?_;refine rA (b:=b) (o:=pre.length+j*1) (cs:=pre++zs.map (.int .i64)) (.int .i64 z) (SQ hy) ?_;refine go ?_;refine rA (b:=b) (o:=pre.length+k*1) (cs:=pre++zs.map (.int .i64)) (.int .i64 x) (SQ hx) ?_;refine go ?_;refine rz (b:=b) (o:=pre.length+k*1) (cs:=pre++zs.map (.int .i64)) (v:=.int .i64 z) (cs':=pre++(zs.set k z).map (.int .i64)) SS (by rw[iE,cz];omega) ?_;refine go ?_;refine rz (b:=b) (o:=pre.length+j*1) (cs:=pre++(zs.set k z).map (.int .i64)) (v:=.int .i64 x) (cs':=pre++((zs.set k z).set j x).map (.int .i64)) SS (by rw[iE,cz,uX];omega) ?_;refine go ?_;refine aM (k+1,(zs.set k z).set j x) B0 ⟨hst,by show 2*(k+1)<=_;omega⟩ (hl:=by dsimp only;rw[show(xs.length:Int) - 1 - ((k+1:Nat):Int)=(j:Int) - 1 by omega];repeat (first|exact trivial|refine⟨rfl,?_⟩))
 have hz:=hR.done vj hle;subst hz;exact de
variable{n:Nat}
theorem amn:aU Tryz.prog (.func 70) [.slice a n c] [] [] [] (λb:Nat=>.func (.func 146) #[] #[ptr' b]) (λ_=>[]) (λb=>[fA b 0 [.slice a n c]]) (λ_=>True):=by
 refine aH U5 afJ λB w0=>?_;refine go ?_;intro b1;refine go ?_;refine bi (dR (b:=b1)) (h:=?_);exact ah b1 (hv:=rfl) (hp:=trivial)
theorem agf(hl:xs.length<=1000000):aU Tryz.prog (.func 45) [.slice a xs.length xs.length] [] [ap ae (.slice a xs.length xs.length) xs] [] (λ_:Unit=>.tuple ⟨[]⟩) (λ_=>[ap ae (.slice a xs.length xs.length) xs.reverse]) (λ_=>[]) (λ_=>True):=by
 by_cases hne:0<xs.length
 ·exact aU.acP (args:=λa=>[.slice a xs.length xs.length]) (zs:=λ_=>xs.reverse) hne (λ_=>List.length_reverse) λb f pre hf=>age hl hf
 ·obtain rfl:xs=[]:=jw.1 vj;intro B w s;obtain⟨S1,s1,back⟩:=s.H9 (k1:=[]) (bG:=[ap ae (.slice a 0 0) []]) (F1:=[]) .nil .nil;refine .qY _ (agd (a:=a) (c:=0) S1 w s1) ?_;exact rI
theorem amo(hl:xs.length<9223372036854775808):
 ahB Tryz.prog (λx:Int=>[jq x]) (.func 146) [] [ptr' b] [ap ae (.slice a xs.length xs.length) xs] [fA b 0 [.slice a xs.length xs.length]] (λys=>ys=xs):=by
 intro S inv ok step s0 Eu y1 y2 F' h0 hok hy;rw[fM,dX];refine aH U6 afK λB w0=>?_;refine go ?_;refine aW (λy:Nat×S=>xs.length - y.1) (λy=>[(7,.int .i64 (y.1:Int))]) (λy=>inv y.2++[ap ae (.slice a xs.length xs.length) xs]) (λ_=>[]) (λy=>y.1<=xs.length/\ok (xs.take y.1) y.2/\lX step y.2 (xs.drop y.1)=lX step s0 xs) (0,s0) ⟨bQ _,h0,rfl⟩ (hk:=aI.all _) (body:=?_);rintro⟨k,s⟩ ⟨hk,hos,hrun⟩;dsimp only at hk hos hrun⊢;refine go ?_;refine az rfl (λh1=>?_) (λh1=>?_)
 ·have hx:xs[k]? =some xs[k]:=bW vj;generalize xs[k]=x at hx;have hd:xs.drop k=x::xs.drop (k+1):=by
   exact tc
  have hX:xs.take k++x::xs.drop (k+1)=xs:=by rw[<- hd,uU]
  have Ar:=hy _ s _ _ hos hX;rw[hd,lX]at hrun;refine go ?_;refine ako (v:=.slice a xs.length xs.length) (xs:=xs) k x hx (next:=λb0 o0=>?_) (hk:=ay.app .here _);refine go ?_;refine ax Ar (hk:=aI.self _ _) (next:=λ_ _=>?_);cases hst:(step s x).2 with
  |true=>
   have hs1:step s x=((step s x).1,true):=Prod.ext rfl hst;rw[hs1]at hrun;refine go ?_;refine aM (k+1,(step s x).1) B0 ⟨by show k+1<=_;omega,?_,hrun⟩ (hk:=aI.all _);exact tD
  |false=>
   exact kx
 have hke:k=xs.length:=vj
 subst hke;rw[ajs]at hrun;refine go ?_;exact ah xs (hv:=rfl) (hp:=rfl) (hk:=B6)
variable{fn:Fn}{first captured:List Value}{A:OA}{F1:List aK}{X:List Int->Prop}
theorem amq(hit:ahB Tryz.prog (λx:Int=>[jq x]) fn first captured [A] F1 X)(hl:∀xs,X xs->xs.length<=1000000):
 aU Tryz.prog (.func 153) [.slice none 0 0,.func fn ⟨first⟩ ⟨captured⟩] [] [A] F1 (λy:NI=>y.v) (λy=>[ap ae y.v y.xs,A]) (λ_=>[]) (λy=>X y.xs):=by
 refine Mg Ul aef λB w0=>?_;refine go ?_;intro b2;refine gH ae ?_;refine Rx (λv:Value=>[pt b2 (.cells [v]),ap ae v ([]:List Int)]) (.slice none 0 0) (h:=?_);refine alr (Z:=Nat) (λ(ys:List Int) (x:Int)=>(ys++[x],Out.normal)) (λys=>[aei ae b2 ys]) (λvs ys=>ys=vs) [] _ (λ_ _=>[]) rfl (λvs s x rest hs hX _=>by rw[hs]) hit C1 ?_ ?_ (λ_ _=>trivial)
 ·exact eo
 ·exact ew
theorem amr(hit:ahB Tryz.prog (λx:Int=>[jq x]) fn first captured [A] F1 X)(hl:∀xs,X xs->xs.length<=1000000):
 aU Tryz.prog (.func 101) [.func fn ⟨first⟩ ⟨captured⟩] [] [A] F1 (λy:NI=>y.v) (λy=>[ap ae y.v y.xs,A]) (λ_=>[]) (λy=>X y.xs):=by
 refine aH Um aeg λB w0=>?_;refine go ?_;refine ax (amq hit hl) (next:=λy hy=>?_);dsimp only[List.cons_append,List.nil_append];refine go ?_;exact ah y (hv:=rfl) (hp:=hy)
theorem ams(hit:ahB Tryz.prog (λx:Int=>[jq x]) fn first captured [A] F1 X)(hl:∀xs,X xs->xs.length<=1000000):
 aU Tryz.prog (.func 69) [.func fn ⟨first⟩ ⟨captured⟩] [] [A] F1 (λy:NI=>y.v) (λy=>[ap ae y.v (bM y.xs),A]) (λ_=>[]) (λy=>X y.xs):=by
 refine aH UW ae6 λB w0=>?_;refine go ?_;refine ax (amr hit hl) (next:=λy hy=>?_);obtain⟨v,xs⟩:=y;dsimp only[List.cons_append,List.nil_append]at hy⊢;have hlen:=hl _ hy;refine pV (E:=ae) (v:=v) (xs:=xs) λa hv=>?_;subst hv;refine go ?_;refine ax (Jh (a:=a) (zs:=xs) rfl vj) (next:=λ_ _=>?_);refine go ?_;exact ah ⟨.slice a xs.length xs.length,xs⟩ (hv:=rfl) (hp:=hy)
theorem ahr{vb:Value}{ys:List Int}(hal:xs.length<9223372036854775808):
 aU Tryz.prog (.func 73) [.slice a xs.length xs.length,vb] [] [ap ae (.slice a xs.length xs.length) xs] [ai ae vb ys] (λ_:Unit=>.bool (decide (xs=ys))) (λ_=>[ap ae (.slice a xs.length xs.length) xs]) (λ_=>[]) (λ_=>True):=by
 refine aH Ur aeh λB w0=>?_;refine go ?_;refine az rfl (λh1=>?_) (λh1=>?_)
 ·exact cW
 have hlen:xs.length=ys.length:=vj
 refine go ?_;refine aW (λk=>xs.length - k) (λk:Nat=>[(13,.int .i64 (k:Int))]) (λ_=>[ap ae (.slice a xs.length xs.length) xs]) (λ_=>[]) (λk=>k<=xs.length/\∀j,j<k->xs[j]? =ys[j]?) 0 ⟨vj,λj hj=>by omega⟩ (hk:=we) (body:=?_);rintro k ⟨hkx,hsame⟩;refine go ?_;refine az rfl (λh2=>?_) (λh2=>?_)
 ·have hx:xs[k]? =some xs[k]:=bW vj;generalize xs[k]=x at hx;refine go ?_;refine ako (v:=.slice a xs.length xs.length) (xs:=xs) k x hx (next:=λb0 o0=>?_);refine go ?_;intro _ _ y hy;refine go ?_;refine az rfl (λh3=>?_) (λh3=>?_)
  ·exact cR
  exact nn
 refine go ?_;refine ah () (hv:=?_) (hp:=trivial);have:xs=ys:=by
  exact cU
 rw[eY this];rfl
def oV(p:List Int->Bool)(L:List (List Int)):Int:=match L.findIdx? p with
 |some i=>(i:Int)
 |none=> -1
variable{p:List Int->Bool}{L:List (List Int)}
theorem Vl{x:List Int}(h:(L.take k).any p=false)(hx:L[k]? =some x)(hp:p x=true):oV p L=(k:Int):=by
 have hk:=(bC.1 hx).1;have:L.findIdx? p=some k:=by
  rw[WM];refine⟨hk,by rw[(bC.1 hx).2];exact hp,λj hj fF=>?_⟩;have h1:=List.any_eq_false.1 h L[j] (aP (i:=j) (by rw[tO,if_pos hj];exact bW vj));exact h1 fF
 unfold oV;rw[this]
theorem Vm(h:L.any p=false):oV p L= -1:=by
 have:L.findIdx? p=none:=by
  rw[List.findIdx?_eq_none_iff];intro x hx;have:=List.any_eq_false.1 h x hx;simpa using this
 unfold oV;rw[this]
theorem NW(L:List (List Int))(w:List Int):oV (λx=>decide (bM x=bM w)) L=pO L w:=rfl
theorem agh{cap:List Value}{va:Value}{xs:List (List Int)}(hl:xs.length<9223372036854775808)(hp:∀x∈xs,E5 Tryz.prog fn first cap F1 p x):
 aU Tryz.prog (.func 71) [va,.func fn ⟨first⟩ ⟨cap⟩] [] [] (ai (ak ae) va xs::F1) (λ_:Unit=>.int .i64 (oV p xs)) (λ_=>[]) (λ_=>[]) (λ_=>True):=by
 refine aH NN U7 λB w0=>?_;refine aT (E:=ak ae) (v:=va) (xs:=xs) vm λaa ca ea=>?_;subst ea;refine go ?_;refine aW (λk=>xs.length - k) (λk:Nat=>[(8,.int .i64 (k:Int))]) (λ_=>[]) (λ_=>[]) (λk=>k<=xs.length/\(xs.take k).any p=false) 0 ⟨vj,vm⟩ (body:=?_);rintro k ⟨hk,hno⟩;refine go ?_;refine az rfl (λh1=>?_) (λh1=>?_)
 ·refine go ?_;refine bq (ak ae) (xs:=xs) (next:=λ_ _ x (u:Value) hx=>?_);refine go ?_;refine ax (hp x (aP hx) u) (next:=λ_ _=>?_);refine go ?_;refine jh rfl (λh2=>?_) (λh2=>?_)
  ·refine go ?_;refine ah () (hv:=?_) (hp:=trivial);rw[Vl hno hx h2];rfl
  ·refine go ?_;refine aM (k+1) vj ⟨vj,?_⟩;rw[bU hx,ajJ,hno];simpa using h2
 have hke:k=xs.length:=vj
 subst hke;rw[bJ]at hno;refine go ?_;refine ah () (hv:=?_) (hp:=trivial);rw[Vm hno];rfl
def rP(xs:List Int):List Value:=(List.range 256).map λj:Nat=>.bool (decide ((j:Int)∈xs))
theorem Vn(xs:List Int):(rP xs).length=256:=by unfold rP;rw[cz,o8]
variable{j:Nat}
theorem agi(hj:j<256):(rP xs)[0+j*1]? =some (.bool (decide ((j:Int)∈xs))):=by
 rw[fC,uV];unfold rP;rw[dK,qN hj];rfl
theorem agj(hj:j<256):(rP xs).set (0+j*1) (.bool true)=rP (xs++[(j:Int)]):=by
 rw[fC,uV];apply jv;intro i;rw[o9,Vn];unfold rP;by_cases hi:i<256
 ·exact pn
 ·exact ox
theorem agk:rP []=List.replicate 256 (.bool false):=by
 unfold rP;apply jv;intro i;rw[dK,OT];by_cases hi:i<256
 ·rw[qN hi,if_pos hi];simp
 ·rw[gJ (by rw[o8];omega),if_neg hi];rfl
theorem agS{B:List Nat}{w0:Wd}{kl:List OA}{F:List aK}{Q:IH->Prop}{A':OA}(e:A=A')(h:R Q B w0 (A'::kl) F):R Q B w0 (A::kl) F:=by rw[e];exact h
theorem agl(hn:n<=256)(hl:xs.length<9223372036854775808):aU Tryz.prog (.func 60) [v,.int .i64 (n:Int)] [] [] [ai ae v xs] (λb:Bool=>.bool b) (λ_=>[]) (λ_=>[]) (λb=>b=true↔di n xs):=by
 refine aH _ (aN 60) λB w0=>?_;refine aT (E:=ae) (v:=v) (xs:=xs) vm λav cv ev=>?_;subst ev;refine go ?_;intro b5;refine agS (A':=pt b5 (.cells (rP []))) (by rw[agk]<;>rfl) ?_;refine go ?_;refine aW (λk=>xs.length - k) (λk:Nat=>[(10,.int .i64 (k:Int))]) (λk=>[pt b5 (.cells (rP (xs.take k)))]) (λ_=>[]) (λk=>k<=xs.length/\(∀x∈xs.take k,0<=x/\x<(n:Int))/\(xs.take k).Nodup) 0 ⟨bQ _,vm,vm⟩ (hk:=we) (body:=?_);rintro k ⟨hk,hin,hnd⟩;refine go ?_;refine az rfl (λh1=>?_) (λh1=>?_)
 ·refine go ?_;intro _ _ x hx;have hxm:=aP hx;have htk:=bU hx;have hno:¬(0<=x/\x<(n:Int))->∀b:Bool,b=false->(b=true↔di n xs):=λh b hb=>⟨(λe=>by rw[hb]at e;cases e),λq=>absurd (q.eH x hxm) h⟩
  refine go ?_;refine gG (λh2=>?_) (λh2=>?_)
  rotate_left
  ·exact ki
  refine go ?_;refine gG (λh3=>?_) (λh3=>?_)
  rotate_left
  ·exact ki
  obtain⟨m,rfl⟩:=iO (by omega:0<=x);refine go ?_;refine rA (b:=b5) (o:=0+m*1) (cs:=rP (xs.take k)) (.bool (decide ((m:Int)∈xs.take k))) (agi vj) ?_;refine go ?_;refine az rfl (λh4=>?_) (λh4=>?_)
  ·exact kp
  refine go ?_;refine rz (b:=b5) (o:=0+m*1) (cs:=rP (xs.take k)) (v:=.bool true) (cs':=rP (xs.take (k+1))) (by rw[agj vj,htk]) (by rw[Vn];omega) ?_;exact gj
 have hke:k=xs.length:=vj
 subst hke;rw[bJ]at hin hnd;refine go ?_;refine ah (decide ((xs.length:Int)=(n:Int))) (hv:=rfl) (hp:=?_);rw[jX];exact⟨λe=>⟨vj,hin,hnd⟩,λq=>by have:=q.len;omega⟩
theorem Vo(hn:n<=256)(hl:xs.length<9223372036854775808):aU Tryz.prog (.func 131) [v,.int .i64 (n:Int)] [] [] [ai ae v xs] (λe:Int=>.int .i64 e) (λ_=>[]) (λ_=>[]) (λe=>e=0↔di n xs):=by
 refine aH _ (aN 131) λB w0=>?_;refine go ?_;refine az rfl (λh1=>?_) (λh1=>?_)
 ·exfalso;omega
 refine go ?_;refine ax (agl (xs:=xs) (n:=n) hn hl) (next:=λb hb=>?_);refine go ?_;cases b with
 |false=>
  refine go ?_;exact ah 110 (hv:=rfl) (hp:=⟨(λh=>by cases h),λh=>by have:=hb.2 h;cases this⟩)
 |true=>
  refine go ?_;exact ah 0 (hv:=rfl) (hp:=⟨λ_=>hb.1 rfl,λ_=>rfl⟩)
def rQ(d:List Int)(n:Nat):List Int:=d++List.replicate (n - d.length) 0
variable{d:List Int}
theorem agm(h:d.length<=n):(rQ d n).length=n:=by unfold rQ;rw[iE,List.length_replicate];omega
theorem agn(hk:k=d.length)(h:k<n):(rQ d n).set k x=rQ (d++[x]) n:=by
 subst hk;unfold rQ;rw[JU _ _ (bV _),ww,show n - d.length=(n - (d.length+1))+1 by omega,FH,List.set_cons_zero,iE,zk,fU];rfl
theorem agp(h:d.length=n):rQ d n=d:=by unfold rQ;rw[h,ww];simp
theorem agq(n:Nat):rQ [] n=List.replicate n 0:=by unfold rQ;simp
theorem agr(n:Nat):zeros [.int .i64 0] n=(rQ [] n).map (.int .i64):=by
 rw[agq];induction n with
 |zero=>rfl
 |succ n ih=>rw[FH,ic,<- ih];rfl
