/-
  Puzzles without one of their clues, by both ways; puzzles compared.
-/
import Derived.Test.YtoohgkkmdnbnfaaGreatDoorLibUB
set_option linter.all false
set_option maxRecDepth 10000
set_option maxHeartbeats 4000000
namespace Go.Proofs.YtoohgkkmdnbnfaaGreatDoor
open Go.Ideal Kd Canon
def ol(p:List Clue)(n e:Int):List Clue:=if e=0 then LU p n else[]
structure Tx(p:List Clue)(n e:Int):Prop where
 eq:e=if 0<=n/\n<p.length then 0 else 1
theorem G7(w:Wd){p:List Clue}{n:Int}:(ah bU (.slice none 0 0) (ol p n 1)).p w:=.inl ⟨rfl,none,0,rfl,trivial⟩
theorem afo{p:List Clue}{vp:Value}{at_:Int}(hl:p.length<=4096):aZ Tryz.prog (.func 13) [.agg ⟨[vp]⟩,.int .i64 at_] [] [] [ah bU vp p] (λy:SL=>.tuple ⟨[.agg ⟨[y.v]⟩,.int .i64 y.e]⟩) (λ_=>[])
 (λy=>[ah bU y.v (ol p at_ y.e)]) (λy=>Tx p at_ y.e):=by
 refine aG SK adR λB w0=>?_;refine aT (E:=bU) (v:=vp) (xs:=p) (by simp) λLK cp ep=>?_;subst ep;refine go ?_;intro b2 b4;refine go ?_;first|with_reducible refine aL (λh1=>?_) (λh1=>?_)|with_reducible refine aK (λh1=>?_) (λh1=>?_)|with_reducible refine aI (λh1=>?_) (λh1=>?_)
 rotate_left
 ·refine go ?_;refine eO (ah bU (.slice none 0 0) (ol p at_ 1)) (λw _=>G7 w) ?_;exact aa ⟨.slice none 0 0,1⟩ (hv:=rfl) (hp:=⟨(if_neg (by omega)).symm⟩)
 refine go ?_;refine az rfl (λh2=>?_) (λh2=>?_)
 ·refine go ?_;refine eO (ah bU (.slice none 0 0) (ol p at_ 1)) (λw _=>G7 w) ?_;exact aa ⟨.slice none 0 0,1⟩ (hv:=rfl) (hp:=⟨(if_neg (by omega)).symm⟩)
 obtain⟨n,rfl⟩:=qy (show 0<=at_ by omega);refine go ?_;refine Pp bU (xs:=p) n (by omega) (next:=λa1 m1=>?_);refine go ?_;refine Pq bU (xs:=p) (n+1) (by omega) (next:=λa2 m2=>?_) (hlo:=rfl);refine go ?_;intro Bf;refine bB (fG (b:=Bf)) (h:=?_);refine go ?_;have htl:(p.take n).length=n:=by rw[gM];omega
 have hdl:(p.drop (n+1)).length=p.length - (n+1):=lX;refine ak (adU (b:=Bf) (jV:=p.take n) (jO:=p.drop (n+1)) (by omega)) (next:=λv _=>?_);refine aT (E:=bU) (v:=v) (xs:=p.take n++p.drop (n+1)) (by simp) λav cv zk=>?_;subst zk;refine go ?_;refine eO (ah bU (.slice av (p.take n++p.drop (n+1)).length cv) (ol p (n:Int) 0)) (λw hw=>hw (ah bU (.slice av (p.take n++p.drop (n+1)).length cv) (p.take n++p.drop (n+1))) (by simp)) ?_;exact aa ⟨.slice av (p.take n++p.drop (n+1)).length cv,0⟩ (hv:=rfl) (hp:=⟨(if_pos (by omega)).symm⟩)
theorem afp{p:List Clue}{vp:Value}{at_:Int}(hl:p.length<=4096):aZ Tryz.prog (.func 14) [.agg ⟨[vp]⟩,.int .i64 at_] [] [] [ah bU vp p] (λy:SL=>.tuple ⟨[.agg ⟨[y.v]⟩,.int .i64 y.e]⟩) (λ_=>[])
 (λy=>[ah bU y.v (ol p at_ y.e)]) (λy=>Tx p at_ y.e):=by
 refine aG _ (aM 14) λB w0=>?_;refine aT (E:=bU) (v:=vp) (xs:=p) (by simp) λLK cp ep=>?_;subst ep;refine go ?_;intro b2 b4;refine go ?_;first|with_reducible refine aL (λh1=>?_) (λh1=>?_)|with_reducible refine aK (λh1=>?_) (λh1=>?_)|with_reducible refine aI (λh1=>?_) (λh1=>?_)
 rotate_left
 ·refine go ?_;refine eO (ah bU (.slice none 0 0) (ol p at_ 1)) (λw _=>G7 w) ?_;exact aa ⟨.slice none 0 0,1⟩ (hv:=rfl) (hp:=⟨(if_neg (by omega)).symm⟩)
 refine go ?_;refine az rfl (λh2=>?_) (λh2=>?_)
 ·refine go ?_;refine eO (ah bU (.slice none 0 0) (ol p at_ 1)) (λw _=>G7 w) ?_;exact aa ⟨.slice none 0 0,1⟩ (hv:=rfl) (hp:=⟨(if_neg (by omega)).symm⟩)
 obtain⟨n,rfl⟩:=qy (show 0<=at_ by omega);refine go ?_;intro b17;refine go ?_;refine Pp bU (xs:=p) n (by omega) (next:=λa1 c1=>?_);refine go ?_;refine yQ bU (.slice a1 n c1) (xs:=p.take n) λy1 e1=>?_;refine DK (E:=bU) (v:=.slice a1 n c1) (ax:=y1) ?_;have l1:y1.length=n:=by rw[<- di (f:=λp:CV=>p.1),e1,gM];omega
 refine QC (b:=b17) (f:=0) (m:=0) bU [] y1 rfl (.inl rfl) ⟨by omega,by omega,by omega⟩ (λb1 f1 m1 hm1 hf1=>?_) (hk:=ay.here);rw[dH]at hm1⊢;refine go ?_;intro b6;refine go ?_;refine Pq bU (xs:=p) (n+1) (by omega) (next:=λa2 c2=>?_) (hlo:=rfl);refine go ?_;refine yQ bU (.slice a2 (p.length - (n+1)) c2) (xs:=p.drop (n+1)) λy2 e2=>?_;refine DK (E:=bU) (v:=.slice a2 (p.length - (n+1)) c2) (ax:=y2) ?_;have l2:y2.length=p.length - (n+1):=by rw[<- lX,<- e2,di]
 refine QC (b:=b1) (f:=f1) (m:=m1) bU y1 y2 hm1 hf1 ⟨by omega,by omega,by omega⟩ (λb3 f3 m3 hm3 hf3=>?_);have hmap:(y1++y2).map (·.1)=ol p (n:Int) 0:=by rw[eX,e1,e2];rfl
 subst hm3;rw[show bP bU (y1++y2)=bP bU (y1++y2)++[]from(gD _).symm];refine aag bU (ax:=y1++y2) hf3 (bI _) ?_ (λw hw=>?_)
 rotate_left
 ·intro p hp f hf;rcases dZ.1 hp with hp|hp
  ·exact hw (oO bU y1) (by simp) p hp f hf
  ·exact hw (oO bU y2) (by simp) p hp f hf
 rw[hmap];refine go ?_;exact aa ⟨.slice (some ⟨b3,0,some f3⟩) (y1++y2).length (y1++y2).length,0⟩ (hv:=rfl) (hp:=⟨(if_pos (by omega)).symm⟩)
theorem afr{a b:Clue}{va vb:Value}(ha:a.values.length<=1000000)(hb:b.values.length<=1000000):bY Tryz.prog 41 [ru a va,ru b vb] [ah ae va a.values,ah ae vb b.values] (.bool (decide (a=b))):=by
 refine aG _ (aM 41) λB w0=>?_;refine go ?_;intro b2 b3;refine go ?_;refine ak (adJ (a:=a) (b:=b) (va:=va) (vb:=vb) ha hb) (next:=λ_ _=>?_);refine go ?_;refine aa () (hv:=?_) (hp:=trivial);rw[show decide (a=b)=decide (pU a b=0)from mG.2 (OW.zero a b).symm];rfl
theorem afs{va vb:Value}{xs ys:List Clue}(hal:xs.length<=1000000)(hx:short xs)(hy:short ys):
 bY Tryz.prog 40 [va,vb,.func (.func 41) ⟨[]⟩ ⟨[]⟩] [ah bU va xs,ah bU vb ys] (.bool (decide (xs=ys))):=by
 refine aG _ (aM 40) λB w0=>?_;refine go ?_;refine az rfl (λh1=>?_) (λh1=>?_)
 ·refine go ?_;refine aa () (hv:=?_) (hp:=trivial);rw[aR (λe=>h1 (by rw[e]))];rfl
 have hlen:xs.length=ys.length:=by omega
 refine go ?_;refine aX (λk=>xs.length - k) (λk:Nat=>[(17,.int .i64 (k:Int))]) (λ_=>[]) (λ_=>[]) (λk=>k<=xs.length/\∀j,j<k->xs[j]? =ys[j]?) 0 ⟨by omega,λj hj=>by omega⟩ (body:=?_);rintro k ⟨hkx,hsame⟩;refine go ?_;refine az rfl (λh2=>?_) (λh2=>?_)
 ·refine go ?_;refine aY bU (next:=λ_ _ x (vx:Value) hxk=>?_);refine go ?_;intro b8;refine go ?_;refine aY bU (next:=λ_ _ y (vy:Value) hyk=>?_);refine go ?_;intro b9;refine go ?_;refine ak (afr (a:=x) (b:=y) (hx x (bJ hxk)) (hy y (bJ hyk))) (next:=λ_ _=>?_);refine go ?_;refine ed rfl (λh3=>?_) (λh3=>?_)
  ·refine go ?_;refine aa () (hv:=?_) (hp:=trivial);rw[aR (λe=>h3 (by rw[e,hyk]at hxk;cases hxk;rfl))];rfl
  refine go ?_;refine aO (k+1) (by omega) ⟨by omega,λj hj=>?_⟩;by_cases e:j=k
  ·subst e;rw[hxk,hyk,h3]
  ·exact hsame j (by omega)
 refine go ?_;refine aa () (hv:=?_) (hp:=trivial);have:xs=ys:=by
  apply jw;intro j;by_cases hj:j<k
  ·exact hsame j hj
  ·rw[gL (by omega),gL (by omega)]
 rw[eB this];rfl
theorem Ty{va vb:Value}{xs ys:List Clue}(hal:xs.length<=1000000)(hx:short xs)(hy:short ys):
 bY Tryz.prog 18 [.agg ⟨[va]⟩,.agg ⟨[vb]⟩] [ah bU va xs,ah bU vb ys] (.bool (decide (xs=ys))):=by
 refine aG _ (aM 18) λB w0=>?_;refine go ?_;intro b2 b3;refine go ?_;refine ak (afs (xs:=xs) (ys:=ys) hal hx hy) (next:=λ_ _=>?_);refine go ?_;exact aa () (hv:=rfl) (hp:=trivial)
