/- Part. -/
import Derived.Test.YtignbinlipkmfaaGreatDoorLibMG
set_option linter.all false
set_option maxRecDepth 10000
set_option maxHeartbeats 4000000
namespace Go.Proofs.YtignbinlipkmfaaGreatDoor
open Tryz (prog)
open Go.Ideal Kd Canon
variable{v:ah}{xs:ae (ae Int)}
def Sb(hl:xs.length<2^63)(hll:∀l∈xs,l.length<2^63):fC prog 60 [v] [aA (az ai) v xs] (λn:Int=>iV n) (λn=>0<=n/\n<=2001):=by
 refine gB 60 λB w0=>?_;refine gF (az ai) v xs λa1 c1 e1=>?_;subst e1;refine gL (λx:Nat×Int=>xs.length - x.1) (λx=>[(4,iV (x.1:Int)),(3,iV x.2)]) (λx=>x.1<=xs.length/\0<=x.2/\x.2<=4003) (0,0) ⟨bS _,qv,qv⟩ ?_;rintro⟨i,n⟩ ⟨hi,h0,h1⟩;dsimp only at hi h0 h1⊢;refine gH ?_ ?_<;>intro h2
 .exact jx
 refine aP ?_ ?_<;>intro h3
 rotate_left
 .exact jx
 refine go ?_;refine(bV rfl rfl (Em rfl rfl)).h ?_;refine gX (az ai) (xs:=xs) λ_ _ x (vx:ah) hx=>?_;refine go ?_;refine(bV rfl rfl (Em rfl rfl)).h ?_;refine go ?_;exact aY (i+1,min n 2001+1+min (x.length:Int) 2001) (by show xs.length - (i+1)<xs.length - i;omega) ⟨by dsimp only;omega,by dsimp only;omega,tG⟩
structure Sc(d:dA):Prop where
 holes:d.holes.length<=40
 dZ:d.symbols.length<=20
 regs:d.regions.length<=8
 mR:d.bY.length<=8
 pV:d.rules.length<=20
variable{vh vs vr vc vu:ah}
def aas{d:dA}(hr:∀r∈d.regions,r.lists.length<2^63/\∀l∈r.lists,l.length<2^63)(hn:∀r∈d.rules,r.names.length<2^63/\r.others.length<2^63):
 fC prog 61 [.agg ⟨mQ d vh vs vr vc vu⟩] (rY d vh vs vr vc vu) (λb:Bool=>.bool b) (λb=>b=true->Sc d):=by
 refine gB 61 λB w0=>?_;dsimp only[rY];refine gF kz vr d.regions λar cr er=>?_;subst er;refine gF bQ vu d.rules λau cu eu=>?_;subst eu;refine go ?_;intro b1;refine gP b1 ?_;refine gH ?_ ?_<;>intro h1
 rotate_left
 .exact cD
 refine gH ?_ ?_<;>intro h2
 rotate_left
 .exact cD
 refine gH ?_ ?_<;>intro h3
 rotate_left
 .exact cD
 refine gH ?_ ?_<;>intro h4
 rotate_left
 .exact cD
 refine aP ?_ ?_<;>intro h5
 .exact cD
 have hD:Sc d:=⟨p0,p0,p0,p0,p0⟩
 refine gN d.regions.length 3 (λj=>j<=d.regions.length) (bS _) ?_;intro j hj;refine aP ?_ ?_<;>intro a1
 .have hx:d.regions[j]? =some (d.regions[j]'(p0)):=bH _;generalize d.regions[j]'(p0)=x at hx;obtain⟨hx1,hx2⟩:=hr x (aV hx);refine gX kz (xs:=d.regions) λ_ _ x1 (vl1:ah) hx1=>?_;cases hx.symm.trans hx1;refine aP ?_ ?_<;>intro a2
  .exact cD
  refine gN x.lists.length 4 (λi=>i<=x.lists.length) (bS _) ?_;intro i hi;refine gX kz (xs:=d.regions) λ_ _ x2 (Mq:ah) hx2=>?_;cases hx.symm.trans hx2;refine aP ?_ ?_<;>intro a3
  .refine gX kz (xs:=d.regions) λ_ _ x3 (vl3:ah) hx3=>?_;cases hx.symm.trans hx3;refine gX (az ai) (xs:=x.lists) λ_ _ l (vl4:ah) hl=>?_;refine aP ?_ ?_<;>intro a4
   .exact cD
   refine go ?_;exact aY (i+1) (by show x.lists.length - (i+1)<x.lists.length - i;omega) sX
  refine go ?_;exact aY (j+1) (by show d.regions.length - (j+1)<d.regions.length - j;omega) ua
 refine gN d.rules.length 5 (λj=>j<=d.rules.length) (bS _) ?_;intro j hj;refine aP ?_ ?_<;>intro a1
 .have hx:d.rules[j]? =some (d.rules[j]'(p0)):=bH _;generalize d.rules[j]'(p0)=x at hx;obtain⟨hx1,hx2⟩:=hn x (aV hx);refine gX bQ (xs:=d.rules) λ_ _ x1 (w:ah×ah) hx1=>?_;cases hx.symm.trans hx1;refine gH ?_ ?_<;>intro a2
  rotate_left
  .exact cD
  refine gX bQ (xs:=d.rules) λ_ _ x2 (w2:ah×ah) hx2=>?_;cases hx.symm.trans hx2;refine aP ?_ ?_<;>intro a3
  .exact cD
  refine go ?_;exact aY (j+1) (by show d.rules.length - (j+1)<d.rules.length - j;omega) ua
 refine go ?_;exact gQ true (λ_=>hD)
structure Sd(k:aZ):Prop where
 d:Sc k.decl
 cells:k.grid.cells.length<=256
 Me:k.grid.holes.length<=300
variable{k:aZ}
def tX.ofE(hB:CV k)(hF:Sd k):tX k:=by
 have f1:=hF.cells;have f2:=hF.Me;have f5:=hF.d.dZ;have f6:=hF.d.regs;have f7:=hF.d.mR;have f8:=hF.d.pV;have f9:=hF.d.holes;exact eW
variable{gh gc vn vl:ah}
def aoN(hB:CV k):fC prog 31 [.agg ⟨oW k vh vs vr vc vu gh gc vn vl⟩] (jO k vh vs vr vc vu gh gc vn vl []) (λb:Bool=>.bool b) (λb=>b=true->Sd k):=by
 obtain⟨n1,n2⟩:=hB.aN;obtain⟨l1,l2⟩:=hB.lists;refine gB 31 λB w0=>?_;dsimp only[jO];refine gF (az (az ai)) vl k.lists λal cl el=>?_;subst el;refine go ?_;intro b1;refine gL (λx:Nat×Int=>k.lists.length - x.1) (λx=>[(4,iV (x.1:Int)),(3,iV x.2)]) (λx=>x.1<=k.lists.length/\0<=x.2/\x.2<=4001) (0,0) ⟨bS _,qv,qv⟩ ?_;rintro⟨i,n⟩ ⟨hi,h0,h1⟩;dsimp only at hi h0 h1⊢;refine gH ?_ ?_<;>intro h2
 .exact pT
 refine aP ?_ ?_<;>intro h3
 rotate_left
 .exact pT
 refine gX (az (az ai)) (xs:=k.lists) λ_ _ x (vx:ah) hx=>?_;obtain⟨x1,x2⟩:=l2 x (aV hx);refine gC (Sb (xs:=x) x1 x2) λm hm=>?_;refine go ?_;exact aY (i+1,n+m) AT ⟨by dsimp only;omega,by dsimp only;omega,tG⟩
variable{ρ:ak->ah}{x y:ak}{t:aB}{a b:Int}
def aoO{P:Program}(hx:ρ x=iV a)(hy:ρ y=iV b):Pu P ρ (.bin .add t x y) (iV (IntKind.i64.wrap (a+b))):=λh=>by
 simp only[aF.run,hx,hy];rw[yP (v:=iV (IntKind.i64.wrap (a+b)))];simp only[nS,NF];rw[Jj]
def aau(hB:CV k):fC prog 10 [.agg ⟨oW k vh vs vr vc vu gh gc vn vl⟩] (jO k vh vs vr vc vu gh gc vn vl []) (λb:Bool=>.bool b) (λb=>b=true->Sd k/\k.grid.cells.length<=16/\k.decl.symbols.length<=4):=by
 obtain⟨l1,l2⟩:=hB.lists;have hcb:=hB.cells;have hsb:=hB.dZ;refine gB 10 λB w0=>?_;dsimp only[jO];refine gF (az (az ai)) vl k.lists λal cl el=>?_;subst el;refine gF ai gc k.grid.cells λag cg eg=>?_;subst eg;refine gF jH vs k.decl.symbols λwK cs1 es1=>?_;subst es1;refine go ?_;intro b1;refine gL (λx:Nat×Int=>k.lists.length - x.1) (λx=>[(4,iV (x.1:Int)),(3,iV x.2)]) (λ_=>True) (8,0) trivial ?_;rintro⟨i,n⟩ -;dsimp only;refine aP ?_ ?_<;>intro h2
 .refine gX (az (az ai)) (xs:=k.lists) (k:=i) λ_ _ x (vx:ah) hx=>?_;have hxl:=l2 x (aV hx);refine gF (az ai) vx x λax cx ex=>?_;subst ex;refine go ?_;refine(bV rfl rfl (aoO rfl rfl)).h ?_;refine go ?_;exact aY (i+1,IntKind.i64.wrap (n+(x.length:Int))) AT trivial
 refine gC (aoN (k:=k) hB) λb hb=>?_;cases b with
 |false=>
  exact cD
 |true=>
 have hf:=hb rfl;refine gH ?_ ?_<;>intro t1
 .exact cD
 refine gH ?_ ?_<;>intro t2
 .exact cD
 refine go ?_;exact gQ (decide (n<=12)) (λ_=>⟨hf,p0,p0⟩)
def aoP{fn:Fn}{first cap:ae ah}{F1:ae aH}{p:ae Int->Bool}{va:ah}(hl:xs.length<2^63)(hp:∀x∈xs,zm prog fn first cap F1 p x):
 fC prog 46 [va,.func fn ⟨first⟩ ⟨cap⟩] (aA (az ai) va xs::F1) (λ_:Unit=>.bool (xs.any p)) (λ_=>True):=by
 refine gB 46 λB w0=>?_;refine gC (Ze hl hp) λ_ _=>?_;refine bT ?_;have:decide (0<=oZ p xs)=xs.any p:=by
  cases e:xs.any p with
  |false=>rw[Rq e];rfl
  |true=>
   cases hf:xs.findIdx? p with
   |none=>
    rw[SS]at hf;obtain⟨x,hx,hpx⟩:=IX.1 e;rw[hf x hx]at hpx;cases hpx
   |some i=>
    have:oZ p xs=(i:Int):=by unfold oZ;rw[hf]
    rw[this];exact fo p0
 rw[<- this];rfl
variable{s:ae Int}{sc st:ah}
def aoQ{b:Nat}(hs:s.length<2^63)(x:ae Int)(hx:x.length<2^63):zm prog (.func 47) [] [ptr' b] [dx b 0 [sc,st],aA ai sc s] (λx=>decide (x=s)) x:=by
 intro v;rw[dW];refine gB 47 λB w0=>?_;refine gC (uY (xs:=x) (ys:=s) hx) λ_ _=>?_;exact fH
structure aav(G:List (List Int))(cl s t:List Int):Prop where
 p:bC cl.length t
 c:∀(i:Nat) x,t[i]? =some x->aO cl (i:Int)=aO cl x
 m:s∈G
variable{cl:ae Int}
def aoR{G:ae (ae Int)}{t:ae Int}{vG zF:ah}(hcl:cl.length<=256)(hG:G.length<2^63)(hGs:∀x∈G,x.length<2^63)(hs:s.length<2^63)(ht:t.length<2^63):
 fC prog 20 [.agg ⟨[vG,zF]⟩,.agg ⟨[sc,st]⟩] [aA (az ai) vG G,aA ai zF cl,aA ai sc s,aA ai st t] (λb:Bool=>.bool b) (λb=>b=true↔aav G cl s t):=by
 refine gB 20 λB w0=>?_;refine gF ai zF cl λacl ccl ecl=>?_;subst ecl;refine gF ai st t λqK ct et=>?_;subst et;refine go ?_;intro b2 b3;refine gP b2 ?_;refine gP b3 ?_;refine gH ?_ ?_<;>intro h1
 rotate_left
 .refine go ?_;exact gQ false ⟨(λh=>by cases h),λq=>by have:=q.p.len;omega⟩
 refine gC (Rs (xs:=t) (n:=cl.length) hcl ht) λe1 he1=>?_;refine aP ?_ ?_<;>intro h2
 .refine go ?_;exact gQ false ⟨(λh=>by cases h),λq=>absurd (he1.2 q.p) h2⟩
 have hp:=he1.1 (lV.1 h2);have htl:=hp.len;refine gN t.length 23 (λj=>j<=t.length/\∀i',i'<j->∀x,t[i']? =some x->aO cl (i':Int)=aO cl x) ⟨bS _,λi' h=>absurd h (zK _)⟩ ?_;rintro j ⟨hj,hall⟩;refine aP ?_ ?_<;>intro h3
 .refine go ?_;intro _ _ x hx;have nO:=hp.dN x (aV hx);obtain⟨i,rfl⟩:=iQ nO.1;refine go ?_;intro _ _ y hy;have e1:=jB hy;refine go ?_;intro _ _ z hz;have e2:=jB hz;refine aP ?_ ?_<;>intro h4
  .refine go ?_;exact gQ false ⟨(λh=>by cases h),λq=>absurd (by have:=q.c j _ hx;rw[e1,e2]at this;exact this) h4⟩
  refine go ?_;refine aY (j+1) p0 ⟨p0,λi' hi' x hx'=>?_⟩;by_cases e:i'=j
  .subst e;rw[hx]at hx';cases hx';rw[e1,e2];exact lV.1 h4
  .exact pw
 have om:j=t.length:=p0
 subst om;refine gC (aoP (fn:=.func 47) (first:=[]) (cap:=[ptr' b3]) (F1:=[dx b3 0 [sc,.slice qK t.length ct],aA ai sc s]) (p:=λx=>decide (x=s)) (va:=vG) (xs:=G) hG (λx hx=>aoQ hs x (hGs x hx))) λ_ _=>?_;refine go ?_;refine gQ (G.any λx=>decide (x=s)) ⟨λh=>⟨hp,λi x hx=>hall i (aT.1 hx).1 x hx,?_⟩,λq=>IX.2 ⟨s,q.m,fo rfl⟩⟩;obtain⟨x,hx,e⟩:=IX.1 h;rw[<- jT e];exact hx
variable{n:Nat}
def aoU(hn:n<=4096):bA prog (.func 23) [iV (n:Int)] [] [] [] (λv:ah=>v) (λ_=>[]) (λv=>[aA ai v (upTo' n)]) (λ_=>True):=by
 refine gB 23 λB w0=>?_;refine go ?_;intro b0;refine O6 ai aC.here ?_;refine dS (λy:Nat×ah=>n - y.1) (λy=>[(4,iV (y.1:Int)),(3,y.2)]) (λy=>[ap ai y.2 (upTo' y.1)]) (λ_=>[]) (λy=>y.1<=n) (0,.slice (some ⟨b0,0,some 0⟩) 0 0) (bS _) (hk:=qn) (body:=?_);rintro⟨i,v⟩ hi;dsimp only at hi⊢;have hil:=jL i;refine aP ?_ ?_<;>intro h1
 .exact da
 obtain rfl:i=n:=p0
 refine qN (A:=ap ai v (upTo' i)) (fs:=[aA ai v (upTo' i)]) jk (h:=?_);exact pb
def aaw(hn:n<=4096):bA prog (.func 23) [iV (n:Int)] [] [] [] (λv:ah=>v) (λv=>[ap ai v (upTo' n)]) (λ_=>[]) (λ_=>True):=by
 refine gB 23 λB w0=>?_;refine go ?_;intro b0;refine O6 ai aC.here ?_;refine dS (λy:Nat×ah=>n - y.1) (λy=>[(4,iV (y.1:Int)),(3,y.2)]) (λy=>[ap ai y.2 (upTo' y.1)]) (λ_=>[]) (λy=>y.1<=n) (0,.slice (some ⟨b0,0,some 0⟩) 0 0) (bS _) (hk:=qn) (body:=?_);rintro⟨i,v⟩ hi;dsimp only at hi⊢;have hil:=jL i;refine aP ?_ ?_<;>intro h1
 .exact da
 obtain rfl:i=n:=p0
 exact pb
variable{i m j:Nat}
def aoW(hm:m<=4096)(hi:i<m)(hj:j<m):bA prog (.func 24) [iV (m:Int),iV (i:Int),iV (j:Int)] [] [] [] (λv:ah=>v) (λ_=>[]) (λv=>[aA ai v (mg m i j)]) (λ_=>True):=by
 have hl:=jL m;refine gB 24 λB w0=>?_;refine gC (aaw (n:=m) hm) λv _=>?_;refine Xe (v:=v) (xs:=upTo' m) p0 λb f pre hf ev=>?_;subst ev;rw[hl];refine go ?_;refine jG (b:=b) (o:=pre.length+i*1) (cs:=pre++(upTo' m).map iV) (v:=iV (j:Int)) (cs':=pre++((upTo' m).set i (j:Int)).map iV) EB (by simp[hl];omega) ?_;refine go ?_;refine jG (b:=b) (o:=pre.length+j*1) (cs:=pre++((upTo' m).set i (j:Int)).map iV) (v:=iV (i:Int)) (cs':=pre++(mg m i j).map iV) EB (by simp[hl];omega) ?_;have hxl:(mg m i j).length=m:=by unfold mg;rw[jD,jD,hl]
 refine Xf (b:=b) (f:=f) (m:=m) (pre:=pre) (xs:=mg m i j) hxl.symm hf ?_;refine qN jk (A:=ap ai (.slice (some ⟨b,pre.length,some f⟩) m m) (mg m i j)) (fs:=[aA ai (.slice (some ⟨b,pre.length,some f⟩) m m) (mg m i j)]) (h:=?_);refine go ?_;exact gQ (.slice (some ⟨b,pre.length,some f⟩) m m) trivial
def xY(l:ae Int)(i j:Nat):ae Int:=(l.set i (aO l (j:Int))).set j (aO l (i:Int))
def aax(l:ae Int)(i j:Nat):(xY l i j).length=l.length:=by unfold xY;rw[jD,jD]
variable{l:ae Int}
def MI(h:i<l.length):aO l (i:Int)=l[i]:=jB (bH h)
def aoX(hi:i<l.length)(hj:j<l.length):(xY l i j).Perm l:=by
 unfold xY;rw[MI hi,MI hj];exact List.set_set_perm hi hj
def aoY(hi:i<l.length)(hj:j<l.length){v:Int}(v0:0<=v):aO (xY l i j) v=if v=(j:Int)then aO l (i:Int)else if v=(i:Int)then aO l (j:Int)else aO l v:=by
 unfold xY;have h1:=H7 (l:=l.set i (aO l (j:Int))) (s:=(j:Int)) (x:=aO l (i:Int)) (u:=v) p0 tU v0;have h2:=H7 (l:=l) (s:=(i:Int)) (x:=aO l (j:Int)) (u:=v) p0 p0 v0;rw[ic]at h1 h2;rw[h1,h2]
def aoZ(h:oV m cl l){i j:Nat}(hi:i<m)(hj:j<m)(hc:aO cl (i:Int)=aO cl (j:Int)):oV m cl (xY l i j):=by
 have hl:=h.p.len;have hp:=aoX (l:=l) (i:=i) (j:=j) p0 p0;refine⟨⟨by rw[aax,hl],λx hx=>h.p.dN x (hp.mem_iff.1 hx),hp.nodup_iff.2 h.p.nd⟩,λv v0 v1=>?_⟩;rw[aoY p0 p0 v0];split
 .rename_i e;rw[h.c _ p0 p0,e,hc]
 .split
  .rename_i e;rw[h.c _ p0 p0,e,hc]
  .exact h.c v v0 v1
def IB(a b:Int):Int:=IntKind.u64.wrap ((BitVec.ofInt 64 a&&&BitVec.ofInt 64 b).toNat:Int)
def ao0(hx:ρ x=.int .u64 a)(hy:ρ y=.int .u64 b):Pu prog ρ (.bin .and t x y) (.int .u64 (IB a b)):=λh=>by
 have h1:jo prog (do eqGuard .and t x y (.int .u64 a) (.int .u64 b);binOp .and t (.int .u64 a) (.int .u64 b))=some (.int .u64 (IB a b)):=by
  unfold jo;rw[eF,Ay vA tc];have hv:bX prog (binOp .and t (.int .u64 a) (.int .u64 b))=some (.int .u64 (IB a b)):=by
   show bX prog (Op.intBits .and .u64 a b)=_;rfl
  simp only[gy,hv];rfl
 have h2:ku prog .and t x y (.int .u64 a) (.int .u64 b)=some (.int .u64 (IB a b)):=by
  unfold ku;have:nS .and .u64 a b=none:=rfl;simp only[qD,bR,Fu,cond,this];exact h1
 exact nF
def ao1(hx:ρ x=.int .u64 a)(hy:ρ y=.int .u64 b):Pu prog ρ (.bin .eql t x y) (.bool (decide (a=b))):=λh=>by
 have h2:ku prog .eql t x y (.int .u64 a) (.int .u64 b)=some (.bool (decide (a=b))):=by
  simp only[ku,qD,cond];simp[nS,DU];rfl
 exact nF
def aay(n:Int):∃m:Nat,IntKind.u64.wrap n=(m:Int):=⟨(n%18446744073709551616).toNat,by
 show n%18446744073709551616=_;omega⟩
def ao2{n:Int}(hcl:cl.length=m)(hm:m<=4096):bA prog (.func 22) [v,iV n] [] [] [aA ai v cl] (λy:ah×ae Int=>y.1) (λ_=>[]) (λy=>[aA ai y.1 y.2]) (λy=>oV m cl y.2):=by
 refine gB 22 λB w0=>?_;refine gF ai v cl λac cc ec=>?_;subst ec;rw[hcl];refine gC (aaw (n:=m) hm) λw _=>?_;have hid:oV m cl (upTo' m):=⟨bC.ident m,λu u0 u1=>by rw[tO u0 u1]⟩
 refine go ?_;refine dS (λy:Nat×ae Int=>m - y.1) (λy=>[(13,iV (y.1:Int))]) (λy=>[ap ai w y.2]) (λ_=>[]) (λy=>y.1<=m/\oV m cl y.2) (0,upTo' m) ⟨bS _,hid⟩ (body:=?_);rintro⟨i,t⟩ ⟨hi,ht⟩;dsimp only at hi ht⊢;refine aP ?_ ?_<;>intro h1
 rotate_left
 .refine qN jk (A:=ap ai w t) (fs:=[aA ai w t]) (h:=?_);refine go ?_;exact gQ (w,t) ht
 refine go ?_;refine dS (λy:Nat×ae Int=>i - y.1) (λy=>[(17,iV (y.1:Int))]) (λy=>[ap ai w y.2]) (λ_=>[]) (λy=>y.1<=i/\oV m cl y.2) (0,t) ⟨bS _,ht⟩ (body:=?_);rintro⟨j,t⟩ ⟨hj,ht⟩;dsimp only at hj ht⊢;have htl:=ht.p.len;refine aP ?_ ?_<;>intro h2
 rotate_left
 .refine go ?_;exact aY (i+1,t) (by show m - (i+1)<m - i;omega) ⟨by show i+1<=m;omega,ht⟩
 refine go ?_;intro _ _ x hx _ _ y hy;by_cases hxy:x=y
 rotate_left
 .rw[di hxy];exact j9
 rw[fo hxy];refine go ?_;obtain⟨nu,hnu⟩:=aay n;refine(bV rfl rfl (uM (k:=.u64) (m:=(nu:Int)) (by kernel_rfl:prog.underlying 3=some (.int .i64)) qk rfl hnu)).h ?_;refine go ?_;rw[show(i:Int)+(j:Int)=((i+j:Nat):Int)by omega];refine(bV rfl rfl (uM (k:=.u64) (m:=((i+j:Nat):Int)) (by kernel_rfl:prog.underlying 3=some (.int .i64)) qk rfl (KN p0))).h ?_;refine go ?_;refine(bV rfl rfl (Xd (a:=i+j) (b:=60) rfl rfl p0)).h ?_;refine go ?_;have h60:(i+j)%60<64:=p0
 refine(bV rfl rfl (Pw (a:=nu) (b:=(i+j)%60) rfl rfl h60)).h ?_;refine go ?_;refine(bV rfl rfl (ao0 (a:=((nu>>>((i+j)%60):Nat):Int)) (b:=1) rfl rfl)).h ?_;refine go ?_;refine(bV rfl rfl (ao1 (a:=IB ((nu>>>((i+j)%60):Nat):Int) 1) (b:=1) rfl rfl)).h ?_;refine aP ?_ ?_<;>intro h3
 rotate_left
 .exact j9
 refine Xe (v:=w) (xs:=t) p0 λb f pre hf ew=>?_;rw[htl]at ew;subst ew;refine go ?_;have hti:t[i]? =some (aO t (i:Int)):=by rw[MI p0];exact bH _
 have htj:t[j]? =some (aO t (j:Int)):=by rw[MI p0];exact bH _
 refine oN (b:=b) (o:=pre.length+j*1) (cs:=pre++t.map iV) (iV (aO t (j:Int))) (K8 htj) ?_;refine go ?_;refine oN (b:=b) (o:=pre.length+i*1) (cs:=pre++t.map iV) (iV (aO t (i:Int))) (K8 hti) ?_;refine go ?_;refine jG (b:=b) (o:=pre.length+i*1) (cs:=pre++t.map iV) (v:=iV (aO t (j:Int))) (cs':=pre++(t.set i (aO t (j:Int))).map iV) EB qu ?_;refine go ?_;refine jG (b:=b) (o:=pre.length+j*1) (cs:=pre++(t.set i (aO t (j:Int))).map iV) (v:=iV (aO t (i:Int))) (cs':=pre++(xY t i j).map iV) EB qu ?_;have hsw:=aoZ ht (i:=i) (j:=j) p0 p0 (by rw[jB hx,jB hy,hxy]);refine Xf (b:=b) (f:=f) (m:=m) (pre:=pre) (xs:=xY t i j) (by rw[aax,htl]) hf ?_;refine go ?_;exact aY (j+1,xY t i j) (by show i - (j+1)<i - j;omega) ⟨by show j+1<=i;omega,hsw⟩
