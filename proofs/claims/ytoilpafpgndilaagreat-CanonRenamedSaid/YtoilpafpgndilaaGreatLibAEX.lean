/-
  Part LibAEX.
-/
import Derived.Test.YtoilpafpgndilaaGreatLibABX
set_option linter.all false
set_option maxRecDepth 10000
set_option maxHeartbeats 1000000
namespace Go.Proofs.YtoilpafpgndilaaGreat
open Go.Ideal Kd Canon
abbrev pz(b:Nat)(g:Clue)(v:Value):OA:=pt b (.cells [.int .i64 g.aL,.int .i64 g.at_,v])
theorem ajm{b2 b3:Nat}{va vb:Value}{a b:Clue}:
 bA Tryz.prog (.func 64) [] [ptr' b2,ptr' b3] [pz b2 a va,pz b3 b vb] [] (λ_:Unit=>.int .i64 (eU a.aL b.aL)) (λ_=>[pz b2 a va,pz b3 b vb]) (λ_=>[]) (λ_=>True):=by
 refine aM _ (aP 64) λB w0=>?_;refine go ?_;refine ay (OL _ _) (next:=λ_ _=>?_);refine go ?_;exact ah () (hv:=rfl) (hp:=trivial)
theorem ajn{b2 b3:Nat}{va vb:Value}{a b:Clue}:
 bA Tryz.prog (.func 66) [] [ptr' b2,ptr' b3] [pz b2 a va,pz b3 b vb] [] (λ_:Unit=>.int .i64 (eU a.at_ b.at_)) (λ_=>[pz b2 a va,pz b3 b vb]) (λ_=>[]) (λ_=>True):=by
 refine aM _ (aP 66) λB w0=>?_;refine go ?_;refine ay (OL _ _) (next:=λ_ _=>?_);refine go ?_;exact ah () (hv:=rfl) (hp:=trivial)
theorem ajo{b2 b3:Nat}{va vb:Value}{a b:Clue}(hal:a.values.length<=1000000)(hbl:b.values.length<=1000000):
 bA Tryz.prog (.func 67) [] [ptr' b2,ptr' b3] [pz b2 a va,pz b3 b vb] [ai ae va a.values,ai ae vb b.values] (λ_:Unit=>.int .i64 (fK eU a.values b.values)) (λ_=>[pz b2 a va,pz b3 b vb]) (λ_=>[]) (λ_=>True):=by
 refine aM _ (aP 67) λB w0=>?_;refine go ?_;refine ay (agW hal hbl) (next:=λ_ _=>?_);refine go ?_;exact ah () (hv:=rfl) (hp:=trivial)
theorem ajp{va vb:Value}{a b:Clue}(hal:a.values.length<=1000000)(hbl:b.values.length<=1000000):
 dD Tryz.prog 33 [wy a va,wy b vb] [ai ae va a.values,ai ae vb b.values] (.int .i64 (nW a b)):=by
 refine aM _ (aP 33) λB w0=>?_;refine go ?_;intro b2 b3 b12;refine mR ?_;refine go ?_;refine ay (ajm (a:=a) (b:=b)) (next:=λ_ _=>?_);refine go ?_;refine aA rfl (λh1=>?_) (λh1=>?_)
 ·refine go ?_;refine ah () (hv:=?_) (hp:=trivial);rw[nW,if_pos h1];rfl
 refine go ?_;refine mR ?_;refine go ?_;refine ay (ajn (a:=a) (b:=b)) (next:=λ_ _=>?_);refine go ?_;refine aA rfl (λh2=>?_) (λh2=>?_)
 ·refine go ?_;refine ah () (hv:=?_) (hp:=trivial);rw[nW,if_neg h1,if_pos h2];rfl
 refine go ?_;refine mR ?_;refine go ?_;refine ay (ajo (a:=a) (b:=b) hal hbl) (next:=λ_ _=>?_);refine go ?_;refine aA rfl (λh3=>?_) (λh3=>?_)
 ·refine go ?_;refine ah () (hv:=?_) (hp:=trivial);rw[nW,if_neg h1,if_neg h2];rfl
 refine go ?_;refine mR ?_;refine go ?_;refine ah () (hv:=?_) (hp:=trivial);rw[nW,if_neg h1,if_neg h2,ic.1 h3];rfl
theorem Xn{xs ys:List Clue}{k:Nat}(hx:k<=xs.length)(hy:k<=ys.length)(h:k=xs.length\/k=ys.length):
 qG (xs.drop k) (ys.drop k)=if xs.length<ys.length then -1 else if ys.length<xs.length then 1 else 0:=by
 rcases h with h|h
 ·rw[show xs.drop k=[]from vL (by omega)];by_cases e:xs.length<ys.length
  ·rw[if_pos e];have:k<ys.length:=by omega
   rw[oU this];rfl
  ·rw[if_neg e,if_neg (by omega),show ys.drop k=[]from vL (by omega)];rfl
 ·rw[show ys.drop k=[]from vL (by omega)];by_cases e:ys.length<xs.length
  ·rw[if_neg (by omega),if_pos e];have:k<xs.length:=by omega
   rw[oU this];rfl
  ·rw[if_neg (by omega),if_neg e,show xs.drop k=[]from vL (by omega)];rfl
theorem ajq{va vb:Value}{xs ys:List Clue}(hal:xs.length<=1000000)(hbl:ys.length<=1000000)(hx:short xs)(hy:short ys):
 dD Tryz.prog 32 [va,vb,.func (.func 33) #[] #[]] [ai bO va xs,ai bO vb ys] (.int .i64 (qG xs ys)):=by
 refine aM _ (aP 32) λB w0=>?_;refine go ?_;refine aU (λk=>xs.length - k) (λk:Nat=>[(13,.int .i64 (k:Int))]) (λ_=>[]) (λ_=>[]) (λk=>k<=xs.length/\k<=ys.length/\qG xs ys=qG (xs.drop k) (ys.drop k)) 0 ⟨by omega,by omega,rfl⟩ (body:=?_);rintro k ⟨hkx,uj,mH⟩;refine go ?_;refine aA rfl (λh1=>?_) (λh1=>?_)
 ·refine go ?_;refine bi bO (next:=λ_ _ x (vx:Value) hxk=>?_);refine go ?_;intro b8;refine aA rfl (λh2=>?_) (λh2=>?_)
  ·refine go ?_;refine ah () (hv:=?_) (hp:=trivial);rw[mH,drop_cons hxk,show ys.drop k=[]from vL (by omega)];rfl
  refine go ?_;refine bi bO (next:=λ_ _ y (vy:Value) hyk=>?_);refine go ?_;intro b9;refine ay (ajp (a:=x) (b:=y) (hx x (aZ hxk)) (hy y (aZ hyk))) (next:=λ_ _=>?_);refine go ?_;refine aA rfl (λh3=>?_) (λh3=>?_)
  ·refine go ?_;refine ah () (hv:=?_) (hp:=trivial);rw[mH,drop_cons hxk,drop_cons hyk,qG,fK,if_pos h3];rfl
  refine go ?_;refine aN (k+1) (by omega) ⟨by omega,by omega,?_⟩;rw[mH,drop_cons hxk,drop_cons hyk,qG,fK,if_neg (by simpa using h3)]
 refine go ?_;have hkm:k=xs.length:=by omega
 refine aA rfl (λh3=>?_) (λh3=>?_)
 ·refine go ?_;refine ah () (hv:=?_) (hp:=trivial);rw[mH,Xn hkx uj (by omega),if_pos (by omega)];rfl
 refine go ?_;refine ah () (hv:=?_) (hp:=trivial);rw[mH,Xn hkx uj (by omega),if_neg (by omega),if_neg (by omega)];rfl
theorem ajr{va vb:Value}{xs ys:List Clue}(hal:xs.length<=1000000)(hbl:ys.length<=1000000)(hx:short xs)(hy:short ys):
 dD Tryz.prog 12 [.agg ⟨[va]⟩,.agg ⟨[vb]⟩] [ai bO va xs,ai bO vb ys] (.bool (decide (qG xs ys<0))):=by
 refine aM _ (aP 12) λB w0=>?_;refine go ?_;intro b2 b3;refine ay (ajq hal hbl hx hy) (next:=λ_ _=>?_);refine go ?_;exact ah () (hv:=rfl) (hp:=trivial)
theorem Xo{va:Value}{xs:List Clue}:bA Tryz.prog (.func 11) [.agg ⟨[va]⟩] [] [] [ai bO va xs] (λb:Bool=>.bool b) (λ_=>[]) (λ_=>[]) (λb=>b=true->xs.length<=60/\∀g∈xs,g.values.length<=20):=by
 refine aM _ (aP 11) λB w0=>?_;refine go ?_;intro b1;refine aU (λk=>xs.length - k) (λk:Nat=>[(3,.int .i64 (k:Int))]) (λ_=>[]) (λ_=>[]) (λk=>k<=xs.length/\k<=60/\∀j g,j<k->xs[j]? =some g->g.values.length<=20) 0 ⟨by omega,by omega,λj g hj=>by omega⟩ (body:=?_);rintro k ⟨hkx,hk6,hall⟩;refine go ?_;refine gG (λh1=>?_) (λh1=>?_)
 ·refine go ?_;refine ah _ (hv:=rfl) (hp:=λh=>?_);have h:=iI h;refine⟨by omega,λg hg=>?_⟩;obtain⟨j,hj⟩:=jS hg;exact hall j g (by have:=(bq.1 hj).1;omega) hj
 refine go ?_;refine aA rfl (λh2=>?_) (λh2=>?_)
 rotate_left
 ·refine go ?_;refine ah _ (hv:=rfl) (hp:=λh=>?_);have h:=iI h;omega
 refine go ?_;refine bi bO (next:=λ_ _ x (vx:Value) hxk=>?_);refine go ?_;refine aA rfl (λh3=>?_) (λh3=>?_)
 ·refine go ?_;exact ah false (hv:=rfl) (hp:=λh=>by cases h)
 refine go ?_;refine aN (k+1) (by omega) ⟨by omega,by omega,λj g hj hg=>?_⟩;by_cases e:j=k
 ·subst e;rw[hxk]at hg;cases hg;omega
 ·exact hall j g (by omega) hg
