/-
  Part LibIX.
-/
import Derived.Test.YtoilpafpgndilaaGreatPlainCX
import Derived.Test.YtoilpafpgndilaaGreatLibHX
import Derived.Test.YtoilpafpgndilaaGreatLibBX
set_option linter.all false
set_option maxRecDepth 10000
set_option maxHeartbeats 1000000
namespace Go.Proofs.YtoilpafpgndilaaGreat
open Go.Ideal Canon
theorem V5(x:Int):dD Tryz.prog 106 [.int .i64 x] [] (.bool false):=by
 refine aM _ (aP 106) λB w0=>?_;refine go ?_;refine ah () (hv:=?_) (hp:=trivial);simp[rO]
theorem OL(x y:Int):dD Tryz.prog 65 [.int .i64 x,.int .i64 y] [] (.int .i64 (eU x y)):=by
 refine aM _ (aP 65) λB w0=>?_;refine go ?_;refine ay (V5 x) (next:=λ_ _=>?_);refine go ?_;refine ay (V5 y) (next:=λ_ _=>?_);refine go ?_;refine aA rfl (λh1=>?_) (λh1=>?_)
 ·refine go ?_;refine ah () (hv:=?_) (hp:=trivial);rw[eU,if_pos h1];rfl
 refine go ?_;refine aA rfl (λh2=>?_) (λh2=>?_)
 ·refine go ?_;refine ah () (hv:=?_) (hp:=trivial);rw[eU,if_neg h1,if_pos h2];rfl
 refine go ?_;refine ah () (hv:=?_) (hp:=trivial);rw[eU,if_neg h1,if_neg h2];rfl
theorem drop_cons{α:Type}{xs:List α}{k:Nat}{x:α}(h:xs[k]? =some x):xs.drop k=x::xs.drop (k+1):=by
 obtain⟨hlt,he⟩:=bq.1 h;rw[oU hlt,he]
theorem zD{xs ys:List Int}{k:Nat}(hx:k<=xs.length)(hy:k<=ys.length)(h:k=xs.length\/k=ys.length):
 fK eU (xs.drop k) (ys.drop k)=if xs.length<ys.length then -1 else if ys.length<xs.length then 1 else 0:=by
 rcases h with h|h
 ·rw[show xs.drop k=[]from vL (by omega)];by_cases e:xs.length<ys.length
  ·rw[if_pos e];have:k<ys.length:=by omega
   rw[oU this];rfl
  ·rw[if_neg e,if_neg (by omega),show ys.drop k=[]from vL (by omega)];rfl
 ·rw[show ys.drop k=[]from vL (by omega)];by_cases e:ys.length<xs.length
  ·rw[if_neg (by omega),if_pos e];have:k<xs.length:=by omega
   rw[oU this];rfl
  ·rw[if_neg (by omega),if_neg e,show xs.drop k=[]from vL (by omega)];rfl
theorem agW{va vb:Value}{xs ys:List Int}(hal:xs.length<=1000000)(hbl:ys.length<=1000000):
 dD Tryz.prog 68 [va,vb] [ai ae va xs,ai ae vb ys] (.int .i64 (fK eU xs ys)):=by
 refine aM _ (aP 68) λB w0=>?_;refine go ?_;refine aU (λk=>xs.length - k) (λk:Nat=>[(11,.int .i64 (k:Int))]) (λ_=>[]) (λ_=>[]) (λk=>k<=xs.length/\k<=ys.length/\fK eU xs ys=fK eU (xs.drop k) (ys.drop k)) 0 ⟨by omega,by omega,rfl⟩ (body:=?_);rintro k ⟨hkx,uj,mH⟩;refine go ?_;refine aA rfl (λh1=>?_) (λh1=>?_)
 ·refine go ?_;intro _ _ x hx;refine aA rfl (λh2=>?_) (λh2=>?_)
  ·refine go ?_;refine ah () (hv:=?_) (hp:=trivial);rw[mH,drop_cons hx,show ys.drop k=[]from vL (by omega)];rfl
  refine go ?_;intro _ _ y hy;refine ay (OL x y) (next:=λ_ _=>?_);refine go ?_;refine aA rfl (λh3=>?_) (λh3=>?_)
  ·refine go ?_;refine ah () (hv:=?_) (hp:=trivial);rw[mH,drop_cons hx,drop_cons hy,fK,if_pos h3];rfl
  refine go ?_;refine aN (k+1) (by omega) ⟨by omega,by omega,?_⟩;rw[mH,drop_cons hx,drop_cons hy,fK,if_neg (by simpa using h3)]
 refine go ?_;have hkm:k=xs.length:=by omega
 refine aA rfl (λh3=>?_) (λh3=>?_)
 ·refine go ?_;refine ah () (hv:=?_) (hp:=trivial);rw[mH,zD hkx uj (by omega),if_pos (by omega)];rfl
 refine go ?_;refine ah () (hv:=?_) (hp:=trivial);rw[mH,zD hkx uj (by omega),if_neg (by omega),if_neg (by omega)];rfl
set_option maxHeartbeats 4000000
open Go.Ideal Kd Canon
theorem V6(x:Int):dD Tryz.prog 106 [.int .i64 x] [] (.bool false):=by
 refine aM _ (aP 106) λB w0=>?_;refine go ?_;refine ah () (hv:=?_) (hp:=trivial);simp[rO]
theorem V7(x y:Int):dD Tryz.prog 65 [.int .i64 x,.int .i64 y] [] (.int .i64 (eU x y)):=by
 refine aM _ (aP 65) λB w0=>?_;refine go ?_;refine ay (V6 x) (next:=λ_ _=>?_);refine go ?_;refine ay (V6 y) (next:=λ_ _=>?_);refine go ?_;refine aA rfl (λh1=>?_) (λh1=>?_)
 ·refine go ?_;refine ah () (hv:=?_) (hp:=trivial);rw[eU,if_pos h1];rfl
 refine go ?_;refine aA rfl (λh2=>?_) (λh2=>?_)
 ·refine go ?_;refine ah () (hv:=?_) (hp:=trivial);rw[eU,if_neg h1,if_pos h2];rfl
 refine go ?_;refine ah () (hv:=?_) (hp:=trivial);rw[eU,if_neg h1,if_neg h2];rfl
theorem agX{α:Type}{xs:List α}{k:Nat}{x:α}(h:xs[k]? =some x):xs.drop k=x::xs.drop (k+1):=by
 obtain⟨hlt,he⟩:=bq.1 h;rw[oU hlt,he]
theorem agY{v:Value}{xs:List Int}(hl:xs.length<9223372036854775808):dD Tryz.prog 110 [v] [ai ae v xs] (.int .i64 (uW xs)):=by
 refine aM _ (aP 110) λB w0=>?_;refine go ?_;refine aU (λk=>xs.length - k) (λk:Nat=>[(8,.int .i64 (k:Int))]) (λ_=>[]) (λ_=>[]) (λk=>k<=xs.length/\uW xs=uW (xs.drop k)) 0 ⟨by omega,rfl⟩ (body:=?_);rintro k ⟨hk,hf⟩;refine go ?_;refine aA rfl (λh1=>?_) (λh1=>?_)
 ·refine go ?_;intro _ _ x hx;have hd:=agX hx;refine go ?_;refine aA rfl (λh2=>?_) (λh2=>?_)
  ·refine go ?_;refine ah () (hv:=?_) (hp:=trivial);rw[hf,hd,uW,if_pos h2];rfl
  ·refine go ?_;refine aN (k+1) (by show xs.length - (k+1)<xs.length - k;omega) ⟨by omega,?_⟩;rw[hf,hd,uW,if_neg h2]
 have hk:k=xs.length:=by omega
 refine go ?_;refine ah () (hv:=?_) (hp:=trivial);rw[hf,hk,List.drop_length];rfl
theorem agZ{a b:Clue}{va vb:Value}:dD Tryz.prog 76 [wy a va,wy b vb] [] (.int .i64 (gJ a b)):=by
 refine aM _ (aP 76) λB w0=>?_;refine go ?_;intro b2 b3;refine go ?_;refine ay (V7 a.aL b.aL) (next:=λ_ _=>?_);refine go ?_;refine ay (V7 a.at_ b.at_) (next:=λ_ _=>?_);refine go ?_;intro b15;refine bn (A:=pt b15 (.cells [.int .i64 (eU a.aL b.aL),.int .i64 (eU a.at_ b.at_)])) (fs:=[ai ae (.slice (some ⟨b15,0,some 0⟩) 2 2) [eU a.aL b.aL,eU a.at_ b.at_]]) (uR (b:=b15) (f:=0) (c:=2) (xs:=[eU a.aL b.aL,eU a.at_ b.at_])) (h:=?_);refine go ?_;refine ay (agY (xs:=[eU a.aL b.aL,eU a.at_ b.at_]) (by simp)) (next:=λ_ _=>?_);refine go ?_;exact ah () (hv:=rfl) (hp:=trivial)
structure wK(p:List Clue):Prop where
 len:p.length<9223372036854775808
 vals:∀g∈p,g.values.length<9223372036854775808
theorem ag0{k:bD}{g:Clue}{vh vs vr vc vu gh gc vn vl vv:Value}(hS:nZ k)(hF:Fq k)(hv:g.values.length<9223372036854775808):
 bA Tryz.prog (.func 75) [.agg ⟨kZ k vh vs vr vc vu gh gc vn vl⟩,wy g vv] [] [] (ai ae vv g.values::j6 k vh vs vr vc vu gh gc vn vl []) (λb:Bool=>.bool b) (λ_=>[]) (λ_=>[]) (λb=>b=true↔mY k g):=by
 have hcl:=hS.d.s.jg;have hsl:=hS.d.s.eH;refine aM _ (aP 75) λB w0=>?_;refine aS (E:=bI) (v:=vc) (xs:=k.decl.aJ) (by simp) λac cc ec=>?_;subst ec;refine aS (E:=fF) (v:=vs) (xs:=k.decl.symbols) (by simp) λkY cs1 es1=>?_;subst es1;refine aS (E:=ak (ak ae)) (v:=vl) (xs:=k.lists) (by simp) λal cl el=>?_;subst el;refine aS (E:=ae) (v:=vv) (xs:=g.values) (by simp) λav cv OM=>?_;subst OM;refine go ?_;intro b2 b3;refine bn (eX (b:=b2)) (h:=?_);refine bn (eX (b:=b3)) (h:=?_);refine go ?_;refine gG (λh1=>?_) (λh1=>?_)
 rotate_left
 ·refine go ?_;exact ah false (hv:=rfl) (hp:=⟨(λh=>by cases h),λ⟨c,l,h,_⟩=>by omega⟩)
 refine go ?_;refine aA rfl (λh2=>?_) (λh2=>?_)
 ·refine go ?_;refine ah false (hv:=rfl) (hp:=⟨(λh=>by cases h),λ⟨c,l,_,h,_⟩=>?_⟩);have:=(bq.1 h).1;omega
 obtain⟨ci,hci⟩:=jA (show 0<=g.aL by omega);have hg0:0<=g.aL:=by omega
 have LG:ci<k.decl.aJ.length:=by omega
 have htn:g.aL.toNat=ci:=by omega
 refine go ?_;rw[hci];refine bi bI (xs:=k.decl.aJ) (next:=λ_ _ c (_:Unit) hc=>?_);obtain⟨hf0,hf1⟩:=hF c (aZ hc);refine go ?_;intro b5;refine go ?_;refine gG (λh3=>?_) (λh3=>?_)
 rotate_left
 ·refine go ?_;exact ah false (hv:=rfl) (hp:=⟨(λh=>by cases h),λ⟨c,l,_,_,_,h,_⟩=>by omega⟩)
 refine go ?_;obtain⟨fi,hfi⟩:=jA hf0;have FU:c.family.toNat=fi:=by omega
 rw[hfi];refine bi (ak (ak ae)) (xs:=k.lists) (next:=λ_ _ ls (vls:Value) hls=>?_);refine go ?_;refine aA rfl (λh4=>?_) (λh4=>?_)
 ·refine go ?_;refine ah false (hv:=rfl) (hp:=⟨(λh=>by cases h),λ⟨c',l',_,q1,q2,q3,q4,_⟩=>?_⟩);rw[htn,hc]at q1;cases q1;rw[FU,hls]at q2;cases q2;omega
 have hR:∀b:Bool,(b=true↔((c.type=1/\g.values.length=1/\∀x∈g.values,0<=x/\x<=(k.decl.symbols.length:Int) - 1)\/(c.type=2/\g.values.length=1/\∀x∈g.values,c.lo<=x/\x<=c.hi)\/
  (c.type≠1/\c.type≠2/\g.values.length<=8/\∀x∈g.values,1<=x/\x<=256)))->(b=true↔mY k g):=λb hb=>by
  rw[hb];refine⟨λh=>⟨c,ls,hg0,by rw[htn];exact hc,by rw[FU];exact hls,by omega,by omega,h⟩,λ⟨c',l',_,q1,_,_,_,h⟩=>?_⟩;rw[htn,hc]at q1;cases q1;exact h
 refine go ?_;refine aA rfl (λh5=>?_) (λh5=>?_)
 ·refine go ?_;refine gG (λh6=>?_) (λh6=>?_)
  ·refine go ?_;exact ah false (hv:=rfl) (hp:=hR _ ⟨(λh=>by cases h),λh=>by exfalso;omega⟩)
  refine go ?_;refine ay (NZ (xs:=g.values) (lo:=0) (hi:=(k.decl.symbols.length:Int) - 1) hv) (next:=λ_ _=>?_);refine go ?_;refine ah (xZ g.values 0 ((k.decl.symbols.length:Int) - 1)) (hv:=rfl) (hp:=hR _ ?_);unfold xZ;rw[lM];exact⟨λh=>.inl ⟨h5,by omega,h⟩,λh=>by rcases h with h|h|h;exact h.2.2;exact absurd h5 (by omega);exact absurd h5 h.1⟩
 refine go ?_;refine aA rfl (λh6=>?_) (λh6=>?_)
 ·refine go ?_;refine gG (λh7=>?_) (λh7=>?_)
  ·refine go ?_;exact ah false (hv:=rfl) (hp:=hR _ ⟨(λh=>by cases h),λh=>by exfalso;omega⟩)
  refine go ?_;refine ay (NZ (xs:=g.values) (lo:=c.lo) (hi:=c.hi) hv) (next:=λ_ _=>?_);refine go ?_;refine ah (xZ g.values c.lo c.hi) (hv:=rfl) (hp:=hR _ ?_);unfold xZ;rw[lM];exact⟨λh=>.inr (.inl ⟨h6,by omega,h⟩),λh=>by rcases h with h|h|h;exact absurd h.1 h5;exact h.2.2;exact absurd h6 h.2.1⟩
 refine go ?_;refine gG (λh7=>?_) (λh7=>?_)
 ·refine go ?_;exact ah false (hv:=rfl) (hp:=hR _ ⟨(λh=>by cases h),λh=>by exfalso;omega⟩)
 refine go ?_;refine ay (NZ (xs:=g.values) (lo:=1) (hi:=256) hv) (next:=λ_ _=>?_);refine go ?_;refine ah (xZ g.values 1 256) (hv:=rfl) (hp:=hR _ ?_);unfold xZ;rw[lM];exact⟨λh=>.inr (.inr ⟨h5,h6,by omega,h⟩),λh=>by rcases h with h|h|h;exact absurd h.1 h5;exact absurd h.1 h6;exact h.2.2.2⟩
theorem dH.decl{k:bD}(h:dH k):k.decl=Kd.bE k.decl:=congrArg bD.decl h.e
theorem dH.lists{k:bD}(h:dH k):k.lists=oI k.decl:=by
 have:=congrArg bD.lists h.e;have h2:(kF (Kd.bE k.decl)).lists=oI (Kd.bE k.decl):=rfl;rw[h2,<- h.decl]at this;exact this
theorem dH.grid{k:bD}(h:dH k):k.grid=aT k.decl:=by
 have:=congrArg bD.grid h.e;have h2:(kF (Kd.bE k.decl)).grid=aT (Kd.bE k.decl):=rfl;rw[h2,<- h.decl]at this;exact this
theorem dH.aQ{k:bD}(h:dH k):k.aQ=bJ (aT k.decl):=by
 have:=congrArg bD.aQ h.e;have h2:(kF (Kd.bE k.decl)).aQ=bJ (aT (Kd.bE k.decl)):=rfl;rw[h2,<- h.decl]at this;exact this
theorem dH.typ{k:bD}(h:dH k):FO k.decl:=by
 have:=h.b.typ;rw[<- h.decl]at this;exact this
theorem dH.kE{k:bD}(h:dH k):Fq k:=by
 intro c hc;rw[h.decl]at hc;obtain⟨q,hq,rfl⟩:=eT.1 (show c∈k.decl.aJ.map (lW (cz k.decl))from hc);have h1:=AZ (h.b.rs.Nf q hq);have h2:(cz k.decl).length=8+k.decl.regions.length:=by
  unfold cz;rw[iH,bY];rfl
 have h3:k.lists.length=8+k.decl.regions.length:=by
  rw[h.lists];unfold oI;rw[iH,bY,bY,uu]
 show 0<=((dZ q.on (cz k.decl):Nat):Int)/\((dZ q.on (cz k.decl):Nat):Int)<_;omega
theorem ag2{k:bD}{p:List Clue}{vh vs vr vc vu gh gc vn vl vp:Value}(hS:nZ k)(hP:wK p):
 bA Tryz.prog (.func 37) [.agg ⟨kZ k vh vs vr vc vu gh gc vn vl⟩,.agg ⟨[vp]⟩] [] [] (ai bO vp p::j6 k vh vs vr vc vu gh gc vn vl []) (λe:Int=>.int .i64 e) (λ_=>[]) (λ_=>[])
  (λe=>(¬dH k->e=180)/\(dH k->¬gX k p->e=190)/\(dH k->gX k p->e=0)):=by
 refine aM _ (aP 37) λB w0=>?_;refine aS (E:=bO) (v:=vp) (xs:=p) (by simp) λJS cp ep=>?_;subst ep;refine go ?_;intro b2 b3;refine bn (eX (b:=b2)) (h:=?_);refine bn (eX (b:=b3)) (h:=?_);refine go ?_;refine ay (agV (k:=k) hS) (next:=λb hb=>?_);cases b with
 |false=>
  have hno:¬dH k:=λh=>by have:=hb.2 h;cases this
  dsimp only[cond];refine go ?_;exact ah 180 (hv:=rfl) (hp:=⟨λ_=>rfl,λh=>absurd h hno,λh=>absurd h hno⟩)
 |true=>
 have hK:=hb.1 rfl;clear hb;have hend:¬gX k p->(¬dH k->(190:Int)=180)/\(dH k->¬gX k p->(190:Int)=190)/\(dH k->gX k p->(190:Int)=0):=λhn=>⟨λh=>absurd hK h,λ_ _=>rfl,λ_ h=>absurd h hn⟩
 dsimp only[cond];refine go ?_;refine aA rfl (λh1=>?_) (λh1=>?_)
 ·refine go ?_;exact ah 190 (hv:=rfl) (hp:=hend λh=>by have:=h.len;omega)
 refine go ?_;refine aU (λj:Nat=>p.length - j) (λj=>[(17,.int .i64 (j:Int))]) (λ_=>[]) (λ_=>[]) (λj=>j<=p.length/\(∀g∈p.take j,mY k g)/\∀(i:Nat) a b,i+1<j->p[i]? =some a->p[i+1]? =some b->gJ a b<0) 0 ⟨bR _,by simp,λi a b h=>by omega⟩ (body:=?_);rintro j ⟨hj,hall,hs⟩;refine go ?_;refine aA rfl (λh2=>?_) (λh2=>?_)
 ·refine go ?_;refine bi bO (xs:=p) (next:=λ_ _ g (vg:Value) hg=>?_);have hgm:=aZ hg;have htk:=bZ hg;refine go ?_;intro b6;refine go ?_;refine ay (ag0 (k:=k) (g:=g) (vv:=vg) hS hK.kE (hP.vals g hgm)) (next:=λb hb=>?_);cases b with
  |false=>
   refine go ?_;exact ah 190 (hv:=rfl) (hp:=hend λh=>by have:=hb.2 (h.right g hgm);cases this)
  |true=>
  have hR:=hb.1 rfl;have FV:∀x∈p.take (j+1),mY k x:=by
   rw[htk];intro x hx;rcases dX.1 hx with hx|hx
   ·exact hall x hx
   ·rw[bM.1 hx];exact hR
  refine go ?_;refine gG (λh3=>?_) (λh3=>?_)
  ·have hj0:j=0:=by omega
   subst hj0;refine go ?_;exact aN 1 (by show p.length - 1<p.length - 0;omega) ⟨by omega,FV,λi a b h=>by omega⟩
  obtain⟨i,rfl⟩:∃i,j=i+1:=⟨j - 1,by omega⟩
  refine go ?_;rw[show((i+1:Nat):Int) - 1=(i:Int)by omega];refine bi bO (xs:=p) (next:=λ_ _ g0 (OO:Value) hg0=>?_);refine go ?_;refine ay (agZ (a:=g0) (b:=g) (va:=OO) (vb:=vg)) (next:=λ_ _=>?_);refine go ?_;refine aA rfl (λh4=>?_) (λh4=>?_)
  ·refine go ?_;exact ah 190 (hv:=rfl) (hp:=hend λh=>by have:=h.sorted i g0 g hg0 hg;omega)
  ·refine go ?_;refine aN (i+1+1) (by show p.length - (i+1+1)<p.length - (i+1);omega) ⟨by omega,FV,λi' a b h ha hb=>?_⟩;by_cases e:i'=i
   ·subst e;rw[hg0]at ha;rw[hg]at hb;cases ha;cases hb;omega
   ·exact hs i' a b (by omega) ha hb
 have iR:j=p.length:=by omega
 subst iR;rw[bU]at hall;refine go ?_;exact ah 0 (hv:=rfl) (hp:=⟨λh=>absurd hK h,λ_ h=>absurd ⟨by omega,hall,λi a b ha hb=>hs i a b (bq.1 hb).1 ha hb⟩ h,λ_ _=>rfl⟩)
abbrev OP(k:bD)(grid:List Int):Prop:=Fin (k.grid.cells.length:Int) (k.decl.symbols.length:Int) grid
structure akO(k:bD)(p:List Clue)(grid:List Int)(e:Int):Prop where
 nk:¬dH k->e=180
 nf:dH k->¬OP k grid->e=200
 np:dH k->OP k grid->¬gX k p->e=190
 ok:dH k->OP k grid->gX k p->e=0
