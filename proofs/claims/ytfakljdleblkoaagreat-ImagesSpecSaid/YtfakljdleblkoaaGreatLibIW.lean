/-
  Part LibIW.
-/
import Derived.Test.YtfakljdleblkoaaGreatPlainCW
import Derived.Test.YtfakljdleblkoaaGreatLibHW
set_option linter.all false
set_option maxRecDepth 10000
set_option maxHeartbeats 1000000
namespace Go.Proofs.YtfakljdleblkoaaGreat
open Go.Ideal Canon
theorem aku(x:Int):dL Tryz.prog 202 [.int .i64 x] [] (.bool false):=by
 exact rp
theorem alX(x y:Int):dL Tryz.prog 144 [.int .i64 x,.int .i64 y] [] (.int .i64 (j3 x y)):=by
 refine aH _ (aN 144) λB w0=>?_;refine go ?_;refine ax (aku x) (next:=λ_ _=>?_);refine go ?_;refine ax (aku y) (next:=λ_ _=>?_);refine go ?_;refine az rfl (λh1=>?_) (λh1=>?_)
 ·exact tj
 exact ii
variable{α:Type}
theorem drop_cons{xs:List α}{k:Nat}{x:α}(h:xs[k]? =some x):xs.drop k=x::xs.drop (k+1):=by
 obtain⟨hlt,he⟩:=bC.1 h;rw[wz hlt,he]
variable{xs ys:List Int}
theorem ahi{k:Nat}(hx:k<=xs.length)(hy:k<=ys.length)(h:k=xs.length\/k=ys.length):
 jP j3 (xs.drop k) (ys.drop k)=if xs.length<ys.length then -1 else if ys.length<xs.length then 1 else 0:=by
 rcases h with h|h
 ·rw[show xs.drop k=[]from ahE vj];by_cases e:xs.length<ys.length
  ·rw[if_pos e];have:k<ys.length:=by omega
   rw[wz this];rfl
  ·rw[if_neg e,if_neg vj,show ys.drop k=[]from ahE vj];rfl
 ·rw[show ys.drop k=[]from ahE vj];by_cases e:ys.length<xs.length
  ·rw[if_neg vj,if_pos e];have:k<xs.length:=by omega
   rw[wz this];rfl
  ·rw[if_neg vj,if_neg e,show xs.drop k=[]from ahE vj];rfl
variable{va vb:Value}
theorem alY(hal:xs.length<=1000000)(hbl:ys.length<=1000000):
 dL Tryz.prog 149 [va,vb] [ai ae va xs,ai ae vb ys] (.int .i64 (jP j3 xs ys)):=by
 refine aH _ (aN 149) λB w0=>?_;refine go ?_;refine aW (λk=>xs.length - k) (λk:Nat=>[(11,.int .i64 (k:Int))]) (λ_=>[]) (λ_=>[]) (λk=>k<=xs.length/\k<=ys.length/\jP j3 xs ys=jP j3 (xs.drop k) (ys.drop k)) 0 ⟨vj,vj,rfl⟩ (body:=?_);rintro k ⟨hkx,hky,ae0⟩;refine go ?_;refine az rfl (λh1=>?_) (λh1=>?_)
 ·refine go ?_;intro _ _ x hx;refine az rfl (λh2=>?_) (λh2=>?_)
  ·refine go ?_;refine ah () (hv:=?_) (hp:=trivial);rw[ae0,drop_cons hx,show ys.drop k=[]from ahE vj];rfl
  refine go ?_;intro _ _ y hy;refine ax (alX x y) (next:=λ_ _=>?_);refine go ?_;refine az rfl (λh3=>?_) (λh3=>?_)
  ·refine go ?_;refine ah () (hv:=?_) (hp:=trivial);rw[ae0,drop_cons hx,drop_cons hy,jP,if_pos h3];rfl
  refine go ?_;refine aM (k+1) vj ⟨vj,vj,?_⟩;rw[ae0,drop_cons hx,drop_cons hy,jP,if_neg (by simpa using h3)]
 refine go ?_;have hkm:k=xs.length:=vj
 refine az rfl (λh3=>?_) (λh3=>?_)
 ·refine go ?_;refine ah () (hv:=?_) (hp:=trivial);rw[ae0,ahi hkx hky vj,if_pos vj];rfl
 refine go ?_;refine ah () (hv:=?_) (hp:=trivial);rw[ae0,ahi hkx hky vj,if_neg vj,if_neg vj];rfl
set_option maxHeartbeats 4000000
open Go.Ideal Kd Canon
theorem akv(x:Int):dL Tryz.prog 202 [.int .i64 x] [] (.bool false):=by
 exact rp
theorem akw(x y:Int):dL Tryz.prog 144 [.int .i64 x,.int .i64 y] [] (.int .i64 (j3 x y)):=by
 refine aH _ (aN 144) λB w0=>?_;refine go ?_;refine ax (akv x) (next:=λ_ _=>?_);refine go ?_;refine ax (akv y) (next:=λ_ _=>?_);refine go ?_;refine az rfl (λh1=>?_) (λh1=>?_)
 ·exact tj
 exact ii
theorem alZ{xs:List α}{k:Nat}{x:α}(h:xs[k]? =some x):xs.drop k=x::xs.drop (k+1):=by
 obtain⟨hlt,he⟩:=bC.1 h;rw[wz hlt,he]
theorem akx{v:Value}(hl:xs.length<9223372036854775808):dL Tryz.prog 143 [v] [ai ae v xs] (.int .i64 (Ci xs)):=by
 refine aH _ (aN 143) λB w0=>?_;refine go ?_;refine aW (λk=>xs.length - k) (λk:Nat=>[(8,.int .i64 (k:Int))]) (λ_=>[]) (λ_=>[]) (λk=>k<=xs.length/\Ci xs=Ci (xs.drop k)) 0 ⟨vj,rfl⟩ (body:=?_);rintro k ⟨hk,hf⟩;refine go ?_;refine az rfl (λh1=>?_) (λh1=>?_)
 ·refine go ?_;intro _ _ x hx;have hd:=alZ hx;refine go ?_;refine az rfl (λh2=>?_) (λh2=>?_)
  ·refine go ?_;refine ah () (hv:=?_) (hp:=trivial);rw[hf,hd,Ci,if_pos h2];rfl
  ·refine go ?_;refine aM (k+1) B0 ⟨vj,?_⟩;rw[hf,hd,Ci,if_neg h2]
 have hk:k=xs.length:=vj
 refine go ?_;refine ah () (hv:=?_) (hp:=trivial);rw[hf,hk,ajs];rfl
theorem ajV{a b:Clue}:dL Tryz.prog 67 [aeQ a va,aeQ b vb] [] (.int .i64 (ja a b)):=by
 refine aH _ (aN 67) λB w0=>?_;refine go ?_;intro b2 b3;refine go ?_;refine ax (akw a.aQ b.aQ) (next:=λ_ _=>?_);refine go ?_;refine ax (akw a.at_ b.at_) (next:=λ_ _=>?_);refine go ?_;intro b15;refine bi (A:=pt b15 (.cells [.int .i64 (j3 a.aQ b.aQ),.int .i64 (j3 a.at_ b.at_)])) (fs:=[ai ae (.slice (some ⟨b15,0,some 0⟩) 2 2) [j3 a.aQ b.aQ,j3 a.at_ b.at_]]) (D7 (b:=b15) (f:=0) (c:=2) (xs:=[j3 a.aQ b.aQ,j3 a.at_ b.at_])) (h:=?_);refine go ?_;refine ax (akx (xs:=[j3 a.aQ b.aQ,j3 a.at_ b.at_]) vm) (next:=λ_ _=>?_);refine go ?_;exact ah () (hv:=rfl) (hp:=trivial)
structure aga(p:List Clue):Prop where
 len:p.length<9223372036854775808
 vals:∀g∈p,g.values.length<9223372036854775808
variable{k:bS}{vh vs vr vc vu gh gc vn vl:Value}
theorem al0{g:Clue}{vv:Value}(hS:tC k)(hF:TD k)(hv:g.values.length<9223372036854775808):
 aU Tryz.prog (.func 66) [.agg ⟨lC k vh vs vr vc vu gh gc vn vl⟩,aeQ g vv] [] [] (ai ae vv g.values::ku k vh vs vr vc vu gh gc vn vl []) (λb:Bool=>.bool b) (λ_=>[]) (λ_=>[]) (λb=>b=true↔EG k g):=by
 have hcl:=hS.d.s.jR;have hsl:=hS.d.s.dJ;refine aH _ (aN 66) λB w0=>?_;refine aT (E:=bP) (v:=vc) (xs:=k.decl.aJ) vm λac cc ec=>?_;subst ec;refine aT (E:=eP) (v:=vs) (xs:=k.decl.symbols) vm λmh cs1 es1=>?_;subst es1;refine aT (E:=ak (ak ae)) (v:=vl) (xs:=k.lists) vm λal cl el=>?_;subst el;refine aT (E:=ae) (v:=vv) (xs:=g.values) vm λav cv ev1=>?_;subst ev1;refine go ?_;intro b2 b3;refine bi (dR (b:=b2)) (h:=?_);refine bi (dR (b:=b3)) (h:=?_);refine go ?_;refine gG (λh1=>?_) (λh1=>?_)
 rotate_left
 ·exact qq
 refine go ?_;refine az rfl (λh2=>?_) (λh2=>?_)
 ·exact ov
 obtain⟨ci,hci⟩:=iO (show 0<=g.aQ by omega);have hg0:0<=g.aQ:=vj
 have Zb:ci<k.decl.aJ.length:=vj
 have htn:g.aQ.toNat=ci:=vj
 refine go ?_;rw[hci];refine bq bP (xs:=k.decl.aJ) (next:=λ_ _ c (_:Unit) hc=>?_);obtain⟨hf0,hf1⟩:=hF c (aP hc);refine go ?_;intro b5;refine go ?_;refine gG (λh3=>?_) (λh3=>?_)
 rotate_left
 ·exact pA
 refine go ?_;obtain⟨fi,hfi⟩:=iO hf0;have aiQ:c.family.toNat=fi:=vj
 rw[hfi];refine bq (ak (ak ae)) (xs:=k.lists) (next:=λ_ _ ls (vls:Value) hls=>?_);refine go ?_;refine az rfl (λh4=>?_) (λh4=>?_)
 ·exact lP
 have hR:∀b:Bool,(b=true↔((c.type=1/\g.values.length=1/\∀x∈g.values,0<=x/\x<=(k.decl.symbols.length:Int) - 1)\/(c.type=2/\g.values.length=1/\∀x∈g.values,c.lo<=x/\x<=c.hi)\/
  (c.type≠1/\c.type≠2/\g.values.length<=8/\∀x∈g.values,1<=x/\x<=256)))->(b=true↔EG k g):=λb hb=>by
  rw[hb];refine⟨λh=>⟨c,ls,hg0,by rw[htn];exact hc,by rw[aiQ];exact hls,vj,vj,h⟩,λ⟨c',l',_,q1,_,_,_,h⟩=>?_⟩;rw[htn,hc]at q1;cases q1;exact h
 refine go ?_;refine az rfl (λh5=>?_) (λh5=>?_)
 ·refine go ?_;refine gG (λh6=>?_) (λh6=>?_)
  ·exact ez
  refine go ?_;refine ax (ajU (xs:=g.values) (lo:=0) (hi:=(k.decl.symbols.length:Int) - 1) hv) (next:=λ_ _=>?_);refine go ?_;refine ah (wit g.values 0 ((k.decl.symbols.length:Int) - 1)) (hv:=rfl) (hp:=hR _ ?_);unfold wit;rw[jX];exact⟨λh=>.inl ⟨h5,vj,h⟩,λh=>by rcases h with h|h|h;exact h.2.2;exact absurd h5 vj;exact absurd h5 h.1⟩
 refine go ?_;refine az rfl (λh6=>?_) (λh6=>?_)
 ·refine go ?_;refine gG (λh7=>?_) (λh7=>?_)
  ·exact ez
  refine go ?_;refine ax (ajU (xs:=g.values) (lo:=c.lo) (hi:=c.hi) hv) (next:=λ_ _=>?_);refine go ?_;refine ah (wit g.values c.lo c.hi) (hv:=rfl) (hp:=hR _ ?_);unfold wit;rw[jX];exact⟨λh=>.inr (.inl ⟨h6,vj,h⟩),λh=>by rcases h with h|h|h;exact absurd h.1 h5;exact h.2.2;exact absurd h6 h.2.1⟩
 refine go ?_;refine gG (λh7=>?_) (λh7=>?_)
 ·exact ez
 refine go ?_;refine ax (ajU (xs:=g.values) (lo:=1) (hi:=256) hv) (next:=λ_ _=>?_);refine go ?_;refine ah (wit g.values 1 256) (hv:=rfl) (hp:=hR _ ?_);unfold wit;rw[jX];exact⟨λh=>.inr (.inr ⟨h5,h6,vj,h⟩),λh=>by rcases h with h|h|h;exact absurd h.1 h5;exact absurd h.1 h6;exact h.2.2.2⟩
theorem eF.decl(h:eF k):k.decl=Kd.bF k.decl:=congrArg bS.decl h.e
theorem eF.lists(h:eF k):k.lists=lc k.decl:=by
 have:=congrArg bS.lists h.e;have h2:(j6 (Kd.bF k.decl)).lists=lc (Kd.bF k.decl):=rfl;rw[h2,<- h.decl]at this;exact this
theorem eF.grid(h:eF k):k.grid=aO k.decl:=by
 have:=congrArg bS.grid h.e;have h2:(j6 (Kd.bF k.decl)).grid=aO (Kd.bF k.decl):=rfl;rw[h2,<- h.decl]at this;exact this
theorem eF.aD(h:eF k):k.aD=bI (aO k.decl):=by
 have:=congrArg bS.aD h.e;have h2:(j6 (Kd.bF k.decl)).aD=bI (aO (Kd.bF k.decl)):=rfl;rw[h2,<- h.decl]at this;exact this
theorem eF.typ(h:eF k):E8 k.decl:=by
 have:=h.b.typ;rw[<- h.decl]at this;exact this
theorem eF.iK(h:eF k):TD k:=by
 intro c hc;rw[h.decl]at hc;obtain⟨q,hq,rfl⟩:=eG.1 (show c∈k.decl.aJ.map (lI (bX k.decl))from hc);have h1:=w9 (h.b.rs.ML q hq);have h2:(bX k.decl).length=8+k.decl.regions.length:=by
  unfold bX;rw[iE,cz];rfl
 have h3:k.lists.length=8+k.decl.regions.length:=by
  rw[h.lists];unfold lc;rw[iE,cz,cz,o8]
 show 0<=((dS q.on (bX k.decl):Nat):Int)/\((dS q.on (bX k.decl):Nat):Int)<_;omega
theorem al2{p:List Clue}{vp:Value}(hS:tC k)(hP:aga p):
 aU Tryz.prog (.func 42) [.agg ⟨lC k vh vs vr vc vu gh gc vn vl⟩,.agg ⟨[vp]⟩] [] [] (ai aaH vp p::ku k vh vs vr vc vu gh gc vn vl []) (λe:Int=>.int .i64 e) (λ_=>[]) (λ_=>[])
  (λe=>(¬eF k->e=180)/\(eF k->¬Ck k p->e=190)/\(eF k->Ck k p->e=0)):=by
 refine aH _ (aN 42) λB w0=>?_;refine aT (E:=aaH) (v:=vp) (xs:=p) vm λap1 cp ep=>?_;subst ep;refine go ?_;intro b2 b3;refine bi (dR (b:=b2)) (h:=?_);refine bi (dR (b:=b3)) (h:=?_);refine go ?_;refine ax (Vb (k:=k) hS) (next:=λb hb=>?_);cases b with
 |false=>
  exact cQ
 |true=>
 have hK:=hb.1 rfl;clear hb;have hend:¬Ck k p->(¬eF k->(190:Int)=180)/\(eF k->¬Ck k p->(190:Int)=190)/\(eF k->Ck k p->(190:Int)=0):=λhn=>⟨λh=>absurd hK h,λ_ _=>rfl,λ_ h=>absurd h hn⟩
 dsimp only[cond];refine go ?_;refine az rfl (λh1=>?_) (λh1=>?_)
 ·refine go ?_;exact ah 190 (hv:=rfl) (hp:=hend λh=>by have:=h.len;omega)
 refine go ?_;refine aW (λj:Nat=>p.length - j) (λj=>[(17,.int .i64 (j:Int))]) (λ_=>[]) (λ_=>[]) (λj=>j<=p.length/\(∀g∈p.take j,EG k g)/\∀(i:Nat) a b,i+1<j->p[i]? =some a->p[i+1]? =some b->ja a b<0) 0 ⟨bQ _,vm,λi a b h=>by omega⟩ (body:=?_);rintro j ⟨hj,hall,hs⟩;refine go ?_;refine az rfl (λh2=>?_) (λh2=>?_)
 ·refine go ?_;refine bq aaH (xs:=p) (next:=λ_ _ g (vg:Value) hg=>?_);have hgm:=aP hg;have htk:=bU hg;refine go ?_;intro b6;refine go ?_;refine ax (al0 (k:=k) (g:=g) (vv:=vg) hS hK.iK (hP.vals g hgm)) (next:=λb hb=>?_);cases b with
  |false=>
   refine go ?_;exact ah 190 (hv:=rfl) (hp:=hend λh=>by have:=hb.2 (h.right g hgm);cases this)
  |true=>
  have hR:=hb.1 rfl;have uM:∀x∈p.take (j+1),EG k x:=by
   exact sE
  refine go ?_;refine gG (λh3=>?_) (λh3=>?_)
  ·exact nj
  obtain⟨i,rfl⟩:∃i,j=i+1:=⟨j - 1,vj⟩
  refine go ?_;rw[show((i+1:Nat):Int) - 1=(i:Int)by omega];refine bq aaH (xs:=p) (next:=λ_ _ g0 (vg0:Value) hg0=>?_);refine go ?_;refine ax (ajV (a:=g0) (b:=g) (va:=vg0) (vb:=vg)) (next:=λ_ _=>?_);refine go ?_;refine az rfl (λh4=>?_) (λh4=>?_)
  ·refine go ?_;exact ah 190 (hv:=rfl) (hp:=hend λh=>by have:=h.sorted i g0 g hg0 hg;omega)
  ·exact gk
 have gV:j=p.length:=vj
 subst gV;rw[bJ]at hall;refine go ?_;exact ah 0 (hv:=rfl) (hp:=⟨λh=>absurd hK h,λ_ h=>absurd ⟨vj,hall,λi a b ha hb=>hs i a b (bC.1 hb).1 ha hb⟩ h,λ_ _=>rfl⟩)
abbrev NV(k:bS)(grid:List Int):Prop:=Fin (k.grid.cells.length:Int) (k.decl.symbols.length:Int) grid
theorem al3{grid:List Int}{vg:Value}(hS:tC k)(hl:grid.length<9223372036854775808):
 aU Tryz.prog (.func 40) [.agg ⟨lC k vh vs vr vc vu gh gc vn vl⟩,vg] [] [] (ai ae vg grid::ku k vh vs vr vc vu gh gc vn vl []) (λe:Int=>.int .i64 e) (λ_=>[]) (λ_=>[])
  (λe=>(¬eF k->e=180)/\(eF k->¬NV k grid->e=200)/\(eF k->NV k grid->e=0)):=by
 refine aH _ (aN 40) λB w0=>?_;dsimp only[ku];refine go ?_;intro b2;refine go ?_;refine ax (Vb (k:=k) hS) (next:=λb hb=>?_);cases b with
 |false=>
  exact cQ
 |true=>
 have hK:=hb.1 rfl;clear hb;dsimp only[cond];refine go ?_;refine ax (alI (cells:=(k.grid.cells.length:Int)) (symbols:=(k.decl.symbols.length:Int)) (grid:=grid) hl) (next:=λb hb=>?_);cases b with
 |false=>
  have hno:¬NV k grid:=λh=>by have:=hb.2 h;cases this
  refine go ?_;exact ah 200 (hv:=rfl) (hp:=⟨λh=>absurd hK h,λ_ _=>rfl,λ_ h=>absurd h hno⟩)
 |true=>
  have hf:=hb.1 rfl;refine go ?_;exact ah 0 (hv:=rfl) (hp:=⟨λh=>absurd hK h,λ_ h=>absurd hf h,λ_ _=>rfl⟩)
structure ajE(k:bS)(p:List Clue)(grid:List Int)(e:Int):Prop where
 nk:¬eF k->e=180
 nf:eF k->¬NV k grid->e=200
 np:eF k->NV k grid->¬Ck k p->e=190
 ok:eF k->NV k grid->Ck k p->e=0
def kP(k:bS):List Int:=k.decl.symbols.map (·.value)
structure Vd(k:bS)(r:bA):Prop where
 iK:0<=r.family/\r.family<k.lists.length
 aQ:r.aQ<k.decl.aJ.length
