/-
  Part LibABX.
-/
import Derived.Test.YtoilpafpgndilaaGreatIdealPX
import Derived.Test.YtoilpafpgndilaaGreatLibKX
import Derived.Test.YtoilpafpgndilaaGreatLibAAX
set_option linter.all false
set_option maxRecDepth 10000
set_option maxHeartbeats 4000000
namespace Go.Proofs.YtoilpafpgndilaaGreat
open Go.Ideal Kd Canon
theorem WY{va vb:Value}{xs ys:List Int}(hal:xs.length<=1000000)(hbl:ys.length<=1000000):
 dD Tryz.prog 71 [va,vb] [ai ae va xs,ai ae vb ys] (.int .i64 (fK eU xs ys)):=by
 refine aM _ (aP 71) λB w0=>?_;refine go ?_;refine aU (λk=>xs.length - k) (λk:Nat=>[(5,.int .i64 (k:Int))]) (λ_=>[]) (λ_=>[]) (λk=>k<=xs.length/\k<=ys.length/\fK eU xs ys=fK eU (xs.drop k) (ys.drop k)) 0 ⟨by omega,by omega,rfl⟩ (body:=?_);rintro k ⟨hkx,uj,mH⟩;refine go ?_;refine gG (λh1=>?_) (λh1=>?_)
 ·refine go ?_;refine aA rfl (λh3=>?_) (λh3=>?_)
  ·refine go ?_;refine ah () (hv:=?_) (hp:=trivial);rw[mH,zD hkx uj (by omega),if_pos (by omega)];rfl
  refine go ?_;refine aA rfl (λh4=>?_) (λh4=>?_)
  ·refine go ?_;refine ah () (hv:=?_) (hp:=trivial);rw[mH,zD hkx uj (by omega),if_neg (by omega),if_pos (by omega)];rfl
  refine go ?_;refine ah () (hv:=?_) (hp:=trivial);rw[mH,zD hkx uj (by omega),if_neg (by omega),if_neg (by omega)];rfl
 refine go ?_;refine aA rfl (λh2=>?_) (λh2=>?_)
 rotate_left
 ·refine go ?_;refine aA rfl (λh3=>?_) (λh3=>?_)
  ·refine go ?_;refine ah () (hv:=?_) (hp:=trivial);rw[mH,zD hkx uj (by omega),if_pos (by omega)];rfl
  refine go ?_;refine aA rfl (λh4=>?_) (λh4=>?_)
  ·refine go ?_;refine ah () (hv:=?_) (hp:=trivial);rw[mH,zD hkx uj (by omega),if_neg (by omega),if_pos (by omega)];rfl
  refine go ?_;refine ah () (hv:=?_) (hp:=trivial);rw[mH,zD hkx uj (by omega),if_neg (by omega),if_neg (by omega)];rfl
 refine go ?_;intro _ _ x hx _ _ y hy;refine aA rfl (λh3=>?_) (λh3=>?_)
 ·refine go ?_;refine ah () (hv:=?_) (hp:=trivial);rw[mH,drop_cons hx,drop_cons hy,fK,eU,if_pos h3];rfl
 refine go ?_;intro _ _ x' hx' _ _ y' hy';cases hx.symm.trans hx';cases hy.symm.trans hy';refine aA rfl (λh4=>?_) (λh4=>?_)
 ·refine go ?_;refine ah () (hv:=?_) (hp:=trivial);rw[mH,drop_cons hx,drop_cons hy,fK,eU,if_neg h3,if_pos h4];rfl
 refine go ?_;refine aN (k+1) (by omega) ⟨by omega,by omega,?_⟩;rw[mH,drop_cons hx,drop_cons hy,fK,eU,if_neg h3,if_neg h4];rfl
theorem WZ{b:Nat}{x y:Int}:rH (pt b (.cells [.int .i64 x,.int .i64 y])) [ai ae (.slice (some ⟨b,0,some 0⟩) 2 2) [x,y]]:=uR (xs:=[x,y])
def short(l:List Clue):Prop:=∀g∈l,g.values.length<=1000000
theorem WX{va vb:Value}{a b:Clue}:dD Tryz.prog 70 [wy a va,wy b vb] [] (.int .i64 (fK eU [a.aL,a.at_] [b.aL,b.at_])):=by
 refine aM _ (aP 70) λB w0=>?_;refine go ?_;intro b1 b2 b3 b4;refine bn (WZ) (h:=?_);refine bn (WZ) (h:=?_);refine ay (WY (xs:=[a.aL,a.at_]) (ys:=[b.aL,b.at_]) (by simp) (by simp)) (next:=λ_ _=>?_);refine go ?_;exact ah () (hv:=rfl) (hp:=trivial)
theorem ai2{va vb:Value}{a b:Clue}(hal:a.values.length<=1000000)(hbl:b.values.length<=1000000):
 dD Tryz.prog 35 [wy a va,wy b vb] [ai ae va a.values,ai ae vb b.values] (.bool (decide (a=b))):=by
 refine aM _ (aP 35) λB w0=>?_;refine go ?_;intro b1 b2;refine ay (WX (a:=a) (b:=b)) (next:=λ_ _=>?_);refine go ?_;have hz:=(xK xJ).zero [a.aL,a.at_] [b.aL,b.at_];refine gG (λh1=>?_) (λh1=>?_)
 ·refine go ?_;refine ah () (hv:=?_) (hp:=trivial);rw[aR (λe=>h1 (hz.2 (by rw[e])))];rfl
 refine go ?_;refine ay (WY hal hbl) (next:=λ_ _=>?_);refine go ?_;refine ah () (hv:=?_) (hp:=trivial);have e1:=hz.1 h1;simp only[zR,yC]at e1;have:decide (fK eU a.values b.values=0)=decide (a=b):=by
  rw[nO,(xK xJ).zero];obtain⟨c,p,l⟩:=a;obtain⟨d,q,m⟩:=b;simp only[Clue.mk.injEq]at e1⊢;exact⟨λe=>⟨e1.1,e1.2,e⟩,λe=>e.2.2⟩
 rw[<- this];rfl
theorem F3{va vb:Value}{xs ys:List Clue}(hal:xs.length<=1000000)(hx:short xs)(hy:short ys):
 dD Tryz.prog 14 [.agg ⟨[va]⟩,.agg ⟨[vb]⟩] [ai bO va xs,ai bO vb ys] (.bool (decide (xs=ys))):=by
 refine aM _ (aP 14) λB w0=>?_;refine go ?_;intro b2 b3;refine aA rfl (λh1=>?_) (λh1=>?_)
 ·refine go ?_;refine ah () (hv:=?_) (hp:=trivial);rw[aR (λe=>h1 (by rw[e]))];rfl
 have hlen:xs.length=ys.length:=by omega
 refine go ?_;refine aU (λk=>xs.length - k) (λk:Nat=>[(5,.int .i64 (k:Int))]) (λ_=>[]) (λ_=>[]) (λk=>k<=xs.length/\∀j,j<k->xs[j]? =ys[j]?) 0 ⟨by omega,λj hj=>by omega⟩ (body:=?_);rintro k ⟨hkx,hsame⟩;refine go ?_;refine aA rfl (λh2=>?_) (λh2=>?_)
 ·refine go ?_;refine bi bO (next:=λ_ _ x (vx:Value) hxk=>?_);refine go ?_;refine bi bO (next:=λ_ _ y (vy:Value) hyk=>?_);refine go ?_;refine ay (ai2 (a:=x) (b:=y) (hx x (aZ hxk)) (hy y (aZ hyk))) (next:=λ_ _=>?_);refine go ?_;refine fq rfl (λh3=>?_) (λh3=>?_)
  ·refine go ?_;refine ah () (hv:=?_) (hp:=trivial);rw[aR (λe=>h3 (by rw[e,hyk]at hxk;cases hxk;rfl))];rfl
  refine go ?_;refine aN (k+1) (by omega) ⟨by omega,λj hj=>?_⟩;by_cases e:j=k
  ·subst e;rw[hxk,hyk,h3]
  ·exact hsame j (by omega)
 refine go ?_;refine ah () (hv:=?_) (hp:=trivial);have:xs=ys:=by
  apply iY;intro j;by_cases hj:j<k
  ·exact hsame j hj
  ·rw[fO (by omega),fO (by omega)]
 rw[dK this];rfl
theorem Pj{v:Value}{xs:List (List Int)}(hl:xs.length<9223372036854775808)(hll:∀l∈xs,l.length<9223372036854775808):bA Tryz.prog (.func 72) [v] [] [] [ai (ak ae) v xs] (λn:Int=>.int .i64 n) (λ_=>[]) (λ_=>[]) (λn=>0<=n/\n<=2001):=by
 refine aM _ (aP 72) λB w0=>?_;refine aS (E:=ak ae) (v:=v) (xs:=xs) (by simp) λa1 c1 e1=>?_;subst e1;refine go ?_;refine aU (λx:Nat×Int=>xs.length - x.1) (λx=>[(4,.int .i64 (x.1:Int)),(3,.int .i64 x.2)]) (λ_=>[]) (λ_=>[]) (λx=>x.1<=xs.length/\0<=x.2/\x.2<=4003) (0,0) ⟨bR _,by decide,by decide⟩ (body:=?_);rintro⟨i,n⟩ ⟨hi,h0,h1⟩;dsimp only at hi h0 h1⊢;refine go ?_;refine gG (λh2=>?_) (λh2=>?_)
 ·refine go ?_;refine(fA rfl rfl (II rfl rfl)).h ?_;refine go ?_;exact ah (min n 2001) (hv:=rfl) (hp:=by omega)
 refine go ?_;refine aA rfl (λh3=>?_) (λh3=>?_)
 rotate_left
 ·refine go ?_;refine(fA rfl rfl (II rfl rfl)).h ?_;refine go ?_;exact ah (min n 2001) (hv:=rfl) (hp:=by omega)
 refine go ?_;refine(fA rfl rfl (II rfl rfl)).h ?_;refine go ?_;refine bi (ak ae) (xs:=xs) (next:=λ_ _ x (vx:Value) hx=>?_);refine go ?_;refine(fA rfl rfl (II rfl rfl)).h ?_;refine go ?_;exact aN (i+1,min n 2001+1+min (x.length:Int) 2001) (by show xs.length - (i+1)<xs.length - i;omega) ⟨by dsimp only;omega,by dsimp only;omega,by dsimp only;omega⟩
structure Pk(d:bF):Prop where
 holes:d.holes.length<=40
 eH:d.symbols.length<=20
 regs:d.regions.length<=8
 jg:d.aJ.length<=8
 kX:d.rules.length<=20
theorem WU{d:bF}{vh vs vr vc vu:Value}(hr:∀r∈d.regions,r.lists.length<9223372036854775808/\∀l∈r.lists,l.length<9223372036854775808)(hn:∀r∈d.rules,r.names.length<9223372036854775808/\r.others.length<9223372036854775808):
 bA Tryz.prog (.func 73) [.agg ⟨gB d vh vs vr vc vu⟩] [] [] (lG d vh vs vr vc vu) (λb:Bool=>.bool b) (λ_=>[]) (λ_=>[]) (λb=>b=true->Pk d):=by
 refine aM _ (aP 73) λB w0=>?_;dsimp only[lG];refine aS (E:=eY) (v:=vr) (xs:=d.regions) (by simp) λar cr er=>?_;subst er;refine aS (E:=aY) (v:=vu) (xs:=d.rules) (by simp) λau cu eu=>?_;subst eu;refine go ?_;intro b1;refine bn (eX (b:=b1)) (h:=?_);refine go ?_;refine gG (λh1=>?_) (λh1=>?_)
 rotate_left
 ·refine go ?_;exact ah false (hv:=rfl) (hp:=λh=>by cases h)
 refine go ?_;refine gG (λh2=>?_) (λh2=>?_)
 rotate_left
 ·refine go ?_;exact ah false (hv:=rfl) (hp:=λh=>by cases h)
 refine go ?_;refine gG (λh3=>?_) (λh3=>?_)
 rotate_left
 ·refine go ?_;exact ah false (hv:=rfl) (hp:=λh=>by cases h)
 refine go ?_;refine gG (λh4=>?_) (λh4=>?_)
 rotate_left
 ·refine go ?_;exact ah false (hv:=rfl) (hp:=λh=>by cases h)
 refine go ?_;refine aA rfl (λh5=>?_) (λh5=>?_)
 ·refine go ?_;exact ah false (hv:=rfl) (hp:=λh=>by cases h)
 have hD:Pk d:=⟨by omega,by omega,by omega,by omega,by omega⟩
 refine go ?_;refine aU (λj:Nat=>d.regions.length - j) (λj=>[(3,.int .i64 (j:Int))]) (λ_=>[]) (λ_=>[]) (λj=>j<=d.regions.length) 0 (bR _) (body:=?_);intro j hj;refine go ?_;refine aA rfl (λa1=>?_) (λa1=>?_)
 ·have hx:d.regions[j]? =some (d.regions[j]'(by omega)):=bP _;generalize d.regions[j]'(by omega)=x at hx;obtain⟨hx1,hx2⟩:=hr x (aZ hx);refine go ?_;refine bi eY (xs:=d.regions) (next:=λ_ _ x1 (vl1:Value) hx1=>?_);cases hx.symm.trans hx1;refine go ?_;refine aA rfl (λa2=>?_) (λa2=>?_)
  ·refine go ?_;exact ah false (hv:=rfl) (hp:=λh=>by cases h)
  refine go ?_;refine aU (λi:Nat=>x.lists.length - i) (λi=>[(4,.int .i64 (i:Int))]) (λ_=>[]) (λ_=>[]) (λi=>i<=x.lists.length) 0 (bR _) (body:=?_);intro i hi;refine go ?_;refine bi eY (xs:=d.regions) (next:=λ_ _ x2 (vl2:Value) hx2=>?_);cases hx.symm.trans hx2;refine go ?_;refine aA rfl (λa3=>?_) (λa3=>?_)
  ·refine go ?_;refine bi eY (xs:=d.regions) (next:=λ_ _ x3 (vl3:Value) hx3=>?_);cases hx.symm.trans hx3;refine go ?_;refine bi (ak ae) (xs:=x.lists) (next:=λ_ _ l (vl4:Value) hl=>?_);refine go ?_;refine aA rfl (λa4=>?_) (λa4=>?_)
   ·refine go ?_;exact ah false (hv:=rfl) (hp:=λh=>by cases h)
   refine go ?_;exact aN (i+1) (by show x.lists.length - (i+1)<x.lists.length - i;omega) (by show i+1<=_;omega)
  refine go ?_;exact aN (j+1) (by show d.regions.length - (j+1)<d.regions.length - j;omega) (by show j+1<=_;omega)
 refine go ?_;refine aU (λj:Nat=>d.rules.length - j) (λj=>[(5,.int .i64 (j:Int))]) (λ_=>[]) (λ_=>[]) (λj=>j<=d.rules.length) 0 (bR _) (body:=?_);intro j hj;refine go ?_;refine aA rfl (λa1=>?_) (λa1=>?_)
 ·have hx:d.rules[j]? =some (d.rules[j]'(by omega)):=bP _;generalize d.rules[j]'(by omega)=x at hx;obtain⟨hx1,hx2⟩:=hn x (aZ hx);refine go ?_;refine bi aY (xs:=d.rules) (next:=λ_ _ x1 (w:Value×Value) hx1=>?_);cases hx.symm.trans hx1;refine go ?_;refine gG (λa2=>?_) (λa2=>?_)
  rotate_left
  ·refine go ?_;exact ah false (hv:=rfl) (hp:=λh=>by cases h)
  refine go ?_;refine bi aY (xs:=d.rules) (next:=λ_ _ x2 (w2:Value×Value) hx2=>?_);cases hx.symm.trans hx2;refine go ?_;refine aA rfl (λa3=>?_) (λa3=>?_)
  ·refine go ?_;exact ah false (hv:=rfl) (hp:=λh=>by cases h)
  refine go ?_;exact aN (j+1) (by show d.rules.length - (j+1)<d.rules.length - j;omega) (by show j+1<=_;omega)
 refine go ?_;exact ah true (hv:=rfl) (hp:=λ_=>hD)
structure Pm(k:bD):Prop where
 d:Pk k.decl
 cells:k.grid.cells.length<=256
 JU:k.grid.holes.length<=300
theorem nZ.WV{k:bD}(hB:Bu k)(hF:Pm k):nZ k:=by
 have f1:=hF.cells;have f2:=hF.JU;have f5:=hF.d.eH;have f6:=hF.d.regs;have f7:=hF.d.jg;have f8:=hF.d.kX;have f9:=hF.d.holes;exact⟨⟨⟨by omega,by omega,by omega,by omega,hB.rY,hB.holes,hB.rZ⟩,hB.dw,hB.dh,by omega⟩,⟨hB.gw,hB.gh,by omega,by omega⟩,hB.aQ,hB.lists⟩
theorem aiX{k:bD}{vh vs vr vc vu gh gc vn vl:Value}(hB:Bu k):bA Tryz.prog (.func 36) [.agg ⟨kZ k vh vs vr vc vu gh gc vn vl⟩] [] [] (j6 k vh vs vr vc vu gh gc vn vl []) (λb:Bool=>.bool b) (λ_=>[]) (λ_=>[]) (λb=>b=true->Pm k):=by
 obtain⟨n1,n2⟩:=hB.aQ;obtain⟨l1,l2⟩:=hB.lists;refine aM _ (aP 36) λB w0=>?_;dsimp only[j6];refine aS (E:=ak (ak ae)) (v:=vl) (xs:=k.lists) (by simp) λal cl el=>?_;subst el;refine go ?_;intro b1;refine go ?_;refine aU (λx:Nat×Int=>k.lists.length - x.1) (λx=>[(4,.int .i64 (x.1:Int)),(3,.int .i64 x.2)]) (λ_=>[]) (λ_=>[]) (λx=>x.1<=k.lists.length/\0<=x.2/\x.2<=4001) (0,0) ⟨bR _,by decide,by decide⟩ (body:=?_);rintro⟨i,n⟩ ⟨hi,h0,h1⟩;dsimp only at hi h0 h1⊢;refine go ?_;refine gG (λh2=>?_) (λh2=>?_)
 ·refine go ?_;refine gG (λt1=>?_) (λt1=>?_)
  ·refine go ?_;exact ah false (hv:=rfl) (hp:=λh=>by cases h)
  refine go ?_;refine ay (Pj (xs:=k.aQ) n1 n2) (next:=λm hm=>?_);refine go ?_;refine gG (λt2=>?_) (λt2=>?_)
  ·refine go ?_;exact ah false (hv:=rfl) (hp:=λh=>by cases h)
  refine go ?_;refine gG (λt3=>?_) (λt3=>?_)
  ·refine go ?_;exact ah false (hv:=rfl) (hp:=λh=>by cases h)
  refine go ?_;refine gG (λt4=>?_) (λt4=>?_)
  ·refine go ?_;exact ah false (hv:=rfl) (hp:=λh=>by cases h)
  refine go ?_;refine ay (WU (d:=k.decl) hB.rZ hB.rY) (next:=λb hb=>?_);refine go ?_;exact ah b (hv:=rfl) (hp:=λh=>⟨hb h,by omega,by omega⟩)
 refine go ?_;refine aA rfl (λh3=>?_) (λh3=>?_)
 rotate_left
 ·refine go ?_;refine gG (λt1=>?_) (λt1=>?_)
  ·refine go ?_;exact ah false (hv:=rfl) (hp:=λh=>by cases h)
  refine go ?_;refine ay (Pj (xs:=k.aQ) n1 n2) (next:=λm hm=>?_);refine go ?_;refine gG (λt2=>?_) (λt2=>?_)
  ·refine go ?_;exact ah false (hv:=rfl) (hp:=λh=>by cases h)
  refine go ?_;refine gG (λt3=>?_) (λt3=>?_)
  ·refine go ?_;exact ah false (hv:=rfl) (hp:=λh=>by cases h)
  refine go ?_;refine gG (λt4=>?_) (λt4=>?_)
  ·refine go ?_;exact ah false (hv:=rfl) (hp:=λh=>by cases h)
  refine go ?_;refine ay (WU (d:=k.decl) hB.rZ hB.rY) (next:=λb hb=>?_);refine go ?_;exact ah b (hv:=rfl) (hp:=λh=>⟨hb h,by omega,by omega⟩)
 refine go ?_;refine bi (ak (ak ae)) (xs:=k.lists) (next:=λ_ _ x (vx:Value) hx=>?_);obtain⟨x1,x2⟩:=l2 x (aZ hx);refine go ?_;refine ay (Pj (xs:=x) x1 x2) (next:=λm hm=>?_);refine go ?_;exact aN (i+1,n+m) (by show k.lists.length - (i+1)<k.lists.length - i;omega) ⟨by dsimp only;omega,by dsimp only;omega,by dsimp only;omega⟩
theorem WW{l:List Int}{x:Int}(h1:(l.length:Int)=1)(hx:l[0]? =some x){Q:Int->Prop}:(∀y∈l,Q y)↔Q x:=by
 match l,h1,hx with
 |[a],_,hx=>cases hx;simp
 |[],h1,_=>cases h1
 |_::_::_,h1,_=>simp at h1;omega
theorem aiY{k:bD}{g:Clue}{vh vs vr vc vu gh gc vn vl vv:Value}(hS:nZ k)(hF:Fq k)(hv:g.values.length<9223372036854775808):
 bA Tryz.prog (.func 112) [.agg ⟨kZ k vh vs vr vc vu gh gc vn vl⟩,wy g vv] [] [] (ai ae vv g.values::j6 k vh vs vr vc vu gh gc vn vl []) (λb:Bool=>.bool b) (λ_=>[]) (λ_=>[]) (λb=>b=true↔mY k g):=by
 have hcl:=hS.d.s.jg;have hsl:=hS.d.s.eH;refine aM _ (aP 112) λB w0=>?_;refine aS (E:=bI) (v:=vc) (xs:=k.decl.aJ) (by simp) λac cc ec=>?_;subst ec;refine aS (E:=fF) (v:=vs) (xs:=k.decl.symbols) (by simp) λkY cs1 es1=>?_;subst es1;refine aS (E:=ak (ak ae)) (v:=vl) (xs:=k.lists) (by simp) λal cl el=>?_;subst el;refine aS (E:=ae) (v:=vv) (xs:=g.values) (by simp) λav cv OM=>?_;subst OM;refine go ?_;intro b2 b3;refine bn (eX (b:=b2)) (h:=?_);refine bn (eX (b:=b3)) (h:=?_);refine go ?_;refine gG (λh1=>?_) (λh1=>?_)
 rotate_left
 ·refine go ?_;exact ah false (hv:=rfl) (hp:=⟨(λh=>by cases h),λ⟨c,l,h,_⟩=>by omega⟩)
 refine go ?_;refine aA rfl (λh2=>?_) (λh2=>?_)
 ·refine go ?_;refine ah false (hv:=rfl) (hp:=⟨(λh=>by cases h),λ⟨c,l,_,h,_⟩=>?_⟩);have:=(bq.1 h).1;omega
 obtain⟨ci,hci⟩:=jA (show 0<=g.aL by omega);have hg0:0<=g.aL:=by omega
 have LG:ci<k.decl.aJ.length:=by omega
 have htn:g.aL.toNat=ci:=by omega
 refine go ?_;rw[hci];refine bi bI (xs:=k.decl.aJ) (next:=λ_ _ c (_:Unit) hc=>?_);obtain⟨hf0,hf1⟩:=hF c (aZ hc);refine go ?_;intro b5;refine go ?_;refine gG (λh3=>?_) (λh3=>?_)
 rotate_left
 ·refine go ?_;exact ah false (hv:=rfl) (hp:=⟨(λh=>by cases h),λ⟨c,l,_,_,_,h,_⟩=>by omega⟩)
 refine go ?_;obtain⟨fi,hfi⟩:=jA hf0;have FU:c.family.toNat=fi:=by omega
 rw[hfi];refine bi (ak (ak ae)) (xs:=k.lists) (next:=λ_ _ ls (vls:Value) hls=>?_);refine go ?_;refine aA rfl (λh4=>?_) (λh4=>?_)
 ·refine go ?_;refine ah false (hv:=rfl) (hp:=⟨(λh=>by cases h),λ⟨c',l',_,q1,q2,q3,q4,_⟩=>?_⟩);rw[htn,hc]at q1;cases q1;rw[FU,hls]at q2;cases q2;omega
 have hR:∀b:Bool,(b=true↔((c.type=1/\g.values.length=1/\∀x∈g.values,0<=x/\x<=(k.decl.symbols.length:Int) - 1)\/(c.type=2/\g.values.length=1/\∀x∈g.values,c.lo<=x/\x<=c.hi)\/
  (c.type≠1/\c.type≠2/\g.values.length<=8/\∀x∈g.values,1<=x/\x<=256)))->(b=true↔mY k g):=λb hb=>by
  rw[hb];refine⟨λh=>⟨c,ls,hg0,by rw[htn];exact hc,by rw[FU];exact hls,by omega,by omega,h⟩,λ⟨c',l',_,q1,_,_,_,h⟩=>?_⟩;rw[htn,hc]at q1;cases q1;exact h
 refine go ?_;refine aA rfl (λh5=>?_) (λh5=>?_)
 ·refine go ?_;refine gG (λh6=>?_) (λh6=>?_)
  ·refine go ?_;exact ah false (hv:=rfl) (hp:=hR _ ⟨(λh=>by cases h),λh=>by exfalso;omega⟩)
  refine go ?_;intro _ _ x hx;refine go ?_;have ha:=λQ=>WW (Q:=Q) h6 hx;refine gG (λh7=>?_) (λh7=>?_)
  ·refine go ?_;exact ah false (hv:=rfl) (hp:=hR _ ⟨(λh=>by cases h),λh=>by exfalso;rw[ha,ha,ha]at h;omega⟩)
  refine go ?_;intro _ _ x' hx';cases hx.symm.trans hx';refine go ?_;refine ah (decide (x<(k.decl.symbols.length:Int))) (hv:=rfl) (hp:=hR _ ?_);rw[lM,ha,ha,ha];omega
 refine go ?_;refine aA rfl (λh6=>?_) (λh6=>?_)
 ·refine go ?_;refine gG (λh7=>?_) (λh7=>?_)
  ·refine go ?_;exact ah false (hv:=rfl) (hp:=hR _ ⟨(λh=>by cases h),λh=>by exfalso;omega⟩)
  refine go ?_;intro _ _ x hx;refine go ?_;have ha:=λQ=>WW (Q:=Q) h7 hx;refine gG (λh8=>?_) (λh8=>?_)
  ·refine go ?_;exact ah false (hv:=rfl) (hp:=hR _ ⟨(λh=>by cases h),λh=>by exfalso;rw[ha,ha,ha]at h;omega⟩)
  refine go ?_;intro _ _ x' hx';cases hx.symm.trans hx';refine go ?_;refine ah (decide (x<=c.hi)) (hv:=rfl) (hp:=hR _ ?_);rw[lM,ha,ha,ha];omega
 refine go ?_;refine aU (λj:Nat=>g.values.length - j) (λj=>[(7,.int .i64 (j:Int))]) (λ_=>[]) (λ_=>[]) (λj=>j<=g.values.length/\∀x∈g.values.take j,1<=x/\x<=256) 0 ⟨bR _,by simp⟩ (body:=?_);rintro j ⟨hj,hall⟩;refine go ?_;refine aA rfl (λa1=>?_) (λa1=>?_)
 ·refine go ?_;intro _ _ x hx;have hxm:=aZ hx;refine go ?_;refine gG (λh7=>?_) (λh7=>?_)
  rotate_left
  ·refine go ?_;exact ah false (hv:=rfl) (hp:=hR _ ⟨(λh=>by cases h),λh=>by exfalso;rcases h with h|h|h;exact h5 h.1;exact h6 h.1;have:=h.2.2.2 x hxm;omega⟩)
  refine go ?_;intro _ _ x' hx';cases hx.symm.trans hx';refine go ?_;refine aA rfl (λh8=>?_) (λh8=>?_)
  ·refine go ?_;exact ah false (hv:=rfl) (hp:=hR _ ⟨(λh=>by cases h),λh=>by exfalso;rcases h with h|h|h;exact h5 h.1;exact h6 h.1;have:=h.2.2.2 x hxm;omega⟩)
  refine go ?_;refine aN (j+1) (by show g.values.length - (j+1)<g.values.length - j;omega) ⟨by omega,?_⟩;rw[bZ hx];intro y hy;rcases dX.1 hy with hy|hy
  ·exact hall y hy
  ·rw[bM.1 hy];omega
 have iR:j=g.values.length:=by omega
 subst iR;rw[bU]at hall;refine go ?_;refine ah (decide ((g.values.length:Int)<=8)) (hv:=rfl) (hp:=hR _ ?_);rw[lM];exact⟨λh=>.inr (.inr ⟨h5,h6,by omega,hall⟩),λh=>by rcases h with h|h|h;exact absurd h.1 h5;exact absurd h.1 h6;have:=h.2.2.1;omega⟩
theorem aiZ{k:bD}{p:List Clue}{vh vs vr vc vu gh gc vn vl vp:Value}(hS:nZ k)(hP:wK p)(hF:Fq k):
 bA Tryz.prog (.func 80) [.agg ⟨kZ k vh vs vr vc vu gh gc vn vl⟩,.agg ⟨[vp]⟩] [] [] (ai bO vp p::j6 k vh vs vr vc vu gh gc vn vl []) (λb:Bool=>.bool b) (λ_=>[]) (λ_=>[]) (λb=>b=true↔gX k p):=by
 refine aM _ (aP 80) λB w0=>?_;refine aS (E:=bO) (v:=vp) (xs:=p) (by simp) λJS cp ep=>?_;subst ep;refine go ?_;intro b2 b3;refine bn (eX (b:=b2)) (h:=?_);refine bn (eX (b:=b3)) (h:=?_);refine go ?_;refine aA rfl (λh1=>?_) (λh1=>?_)
 ·refine go ?_;exact ah false (hv:=rfl) (hp:=⟨(λh=>by cases h),λh=>by have:=h.len;omega⟩)
 refine go ?_;refine aU (λj:Nat=>p.length - j) (λj=>[(5,.int .i64 (j:Int))]) (λ_=>[]) (λ_=>[]) (λj=>j<=p.length/\(∀g∈p.take j,mY k g)/\∀(i:Nat) a b,i+1<j->p[i]? =some a->p[i+1]? =some b->gJ a b<0) 0 ⟨bR _,by simp,λi a b h=>by omega⟩ (body:=?_);rintro j ⟨hj,hall,hs⟩;refine go ?_;refine aA rfl (λh2=>?_) (λh2=>?_)
 ·refine go ?_;refine bi bO (xs:=p) (next:=λ_ _ g (vg:Value) hg=>?_);have hgm:=aZ hg;have htk:=bZ hg;refine go ?_;refine ay (aiY (k:=k) (g:=g) (vv:=vg) hS hF (hP.vals g hgm)) (next:=λb hb=>?_);cases b with
  |false=>
   refine go ?_;exact ah false (hv:=rfl) (hp:=⟨(λh=>by cases h),λh=>hb.2 (h.right g hgm)⟩)
  |true=>
  have hR:=hb.1 rfl;have FV:∀x∈p.take (j+1),mY k x:=by
   rw[htk];intro x hx;rcases dX.1 hx with hx|hx
   ·exact hall x hx
   ·rw[bM.1 hx];exact hR
  refine go ?_;refine gG (λh3=>?_) (λh3=>?_)
  ·have hj0:j=0:=by omega
   subst hj0;refine go ?_;exact aN 1 (by show p.length - 1<p.length - 0;omega) ⟨by omega,FV,λi a b h=>by omega⟩
  obtain⟨i,rfl⟩:∃i,j=i+1:=⟨j - 1,by omega⟩
  refine go ?_;rw[show((i+1:Nat):Int) - 1=(i:Int)by omega];refine bi bO (xs:=p) (next:=λ_ _ g0 (OO:Value) hg0=>?_);refine go ?_;refine bi bO (xs:=p) (next:=λ_ _ g' (vg1:Value) hg'=>?_);cases hg.symm.trans hg';refine go ?_;refine ay (WX (a:=g0) (b:=g) (va:=OO) (vb:=vg1)) (next:=λ_ _=>?_);rw[<- Uy];refine go ?_;refine aA rfl (λh4=>?_) (λh4=>?_)
  ·refine go ?_;exact ah false (hv:=rfl) (hp:=⟨(λh=>by cases h),λh=>by have:=h.sorted i g0 g hg0 hg;omega⟩)
  ·refine go ?_;refine aN (i+1+1) (by show p.length - (i+1+1)<p.length - (i+1);omega) ⟨by omega,FV,λi' a b h ha hb=>?_⟩;by_cases e:i'=i
   ·subst e;rw[hg0]at ha;rw[hg]at hb;cases ha;cases hb;omega
   ·exact hs i' a b (by omega) ha hb
 have iR:j=p.length:=by omega
 subst iR;rw[bU]at hall;refine go ?_;exact ah true (hv:=rfl) (hp:=⟨λ_=>⟨by omega,hall,λi a b ha hb=>hs i a b (bq.1 hb).1 ha hb⟩,λ_=>rfl⟩)
theorem ai1{k:bD}{p:List Clue}{vh vs vr vc vu gh gc vn vl vp:Value}(hS:nZ k)(hP:wK p):
 bA Tryz.prog (.func 40) [.agg ⟨kZ k vh vs vr vc vu gh gc vn vl⟩,.agg ⟨[vp]⟩] [] [] (ai bO vp p::j6 k vh vs vr vc vu gh gc vn vl []) (λe:Int=>.int .i64 e) (λ_=>[]) (λ_=>[])
  (λe=>(¬dH k->e=180)/\(dH k->¬gX k p->e=190)/\(dH k->gX k p->e=0)):=by
 refine aM _ (aP 40) λB w0=>?_;refine go ?_;intro b2 b3;refine go ?_;refine ay (aiW (k:=k) hS) (next:=λb hb=>?_);cases b with
 |false=>
  have hno:¬dH k:=λh=>by have:=hb.2 h;cases this
  dsimp only[cond];refine go ?_;exact ah 180 (hv:=rfl) (hp:=⟨λ_=>rfl,λh=>absurd h hno,λh=>absurd h hno⟩)
 |true=>
 have hK:=hb.1 rfl;clear hb;dsimp only[cond];refine go ?_;refine ay (aiZ (k:=k) (p:=p) hS hP hK.kE) (next:=λb hb=>?_);cases b with
 |false=>
  refine go ?_;exact ah 190 (hv:=rfl) (hp:=⟨λh=>absurd hK h,λ_ _=>rfl,λ_ h=>by have:=hb.2 h;cases this⟩)
 |true=>
  refine go ?_;exact ah 0 (hv:=rfl) (hp:=⟨λh=>absurd hK h,λ_ h=>absurd (hb.1 rfl) h,λ_ _=>rfl⟩)
