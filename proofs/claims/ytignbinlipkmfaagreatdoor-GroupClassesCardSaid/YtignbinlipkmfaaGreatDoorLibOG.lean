/- Part. -/
import Derived.Test.YtignbinlipkmfaaGreatDoorLibNG
set_option linter.all false
set_option maxRecDepth 10000
set_option maxHeartbeats 4000000
namespace Go.Proofs.YtignbinlipkmfaaGreatDoor
open Tryz (prog)
open Go.Ideal Kd Canon
noncomputable def RU:=oG prog 108
def ZX:lu prog 108=some RU:=qk
def ZY(c:Nat):(Builtin.zeroCells (Value.slice none 0 0).cells c)=⟨List.replicate c (.slice none 0 0)⟩:=by
 apply Array.ext';unfold Builtin.zeroCells;refine List.ext_getElem (by simp[Value.cells]) λk h1 h2=>?_;simp[Value.cells,Nat.mod_one]
def anM:PN prog 108 (.slice none 0 0) 22 24 where
 room b off n c i vb vo cs v w h1 h2 h3 h4 h5 h6 h7 h8 h9 h10 h11 tA tB kA kB h12 h13 h14 h15 h16:=anc b off n c i vb vo cs v w h1 h2 h3 h4 h5 h6 h7 h8 h9 h10 h11 tA tB kA kB h12 h13 h14 h15 h16
 grow b off n c i vb vo cs v w h1 h2 h3 h4 h5 h6 h7 h8 h9:=by
  intro cs0;obtain⟨e,w',fr,⟨q1,q2⟩,rest⟩:=ane b off n c i vb vo cs v w h1 h2 h3 h4 h5 h6 h7 h8 h9 cs0;refine⟨e,w',fr,⟨grownCap w (n+1) c 22,grownCap_ge w _ _ _,q1,?_⟩,rest⟩;rw[q2,ZY,ZY];have e:∀A B:ae ah,((cs.take i).toArray++(⟨A⟩:Array ah)++(⟨B⟩:Array ah))=⟨cs.take i++A++B⟩:=λA B=>by apply Array.ext';simp
  rw[e]
variable{n:Nat}{v:ah}{xs:ae (ae Int)}
def MB{B:ae Nat}{w0:Wd}{kl kl':ae OA}{F:ae aH}{K:KO}{ds:ae Tmp}{rest:ae bJ}{l:qr}{D:ae Deferred}{pm:aj FrameMode}{ro:aj Nat}{d:Nat}{g:aj (Tmp×Bool)}{x i:ak}(k:Nat)(z:ae Int){kk:IntKind}{d2:Nat}{g2:aj (Tmp×Bool)}(hz:xs[k]? =some z)
 (next:∀b o (y:ah),R (λh=>aK prog ds rest (act n ((d2,y)::(d,.pointer (some ⟨b,o,none⟩))::l) D pm ro) h K) B w0 kl (aA ai y z::F))
 (hn:Nat.blt d n=true:=by rfl) (hg:bK l g=true:=by rfl) (hn2:Nat.blt d2 n=true:=by rfl) (hg2:∀u,bK ((d,u)::l) g2=true:=by intro _;rfl) (hx:ev l x=v:=by conv=>lhs;whnf) (hi:ev l i=.int kk (k:Int):=by rfl)
 (hk:aC (ap (az ai) v xs) kl kl':=by exact dK):
 R (λh=>aK prog ds (⟨⟨some d,g,.oz 1 x i⟩,[]⟩::⟨⟨some d2,g2,.gJ (.tmp d)⟩,[]⟩::rest) (act n l D pm ro) h K) B w0 kl F:=by
 intro w s;have s1:=s.fu hk;obtain⟨S,⟨S1,S2,p,p2,e⟩,h2,h3⟩:=s1.own;have hlt:=(aT.1 hz).1;rcases p with⟨h,_⟩|⟨b,o,f,cells,e1,hf,e2,hb,hcl,hel⟩
 .rw[h]at hz;cases hz
 .subst e1;obtain⟨y,u1,u2⟩:=hel k z hz;have hc:cells[o+(k:Int).toNat*1]? =some y:=by
   rw[ic];exact u1 0 y rfl
  exact cU
def zA(lt:Nat->Bool)(i j:Nat):Nat:=if h:i<j then(if lt ((i+j)/2)then zA lt ((i+j)/2+1) j else zA lt i ((i+j)/2))else i
termination_by j - i
decreasing_by all_goals omega
def anQ{lt:Nat->Bool}:∀(m i j:Nat),j - i<=m->i<=j->zA lt i j<=j:=by
 intro m;induction m with
 |zero=>intro i j h h2;rw[zA,dif_neg p0];omega
 |succ m ih=>
  intro i j h h2;rw[zA];split
  .split
   .exact ih _ _ p0 p0
   .exact mh (ih _ _ p0 p0) p0
  .omega
def MC(xs:ae (ae Int))(p:ae Int)(k:Nat):Bool:=match xs[k]? with
 |some q=>decide (fQ fZ q p<0)
 |none=>false
def Db(xs:ae (ae Int))(p:ae Int)(k:Nat):Bool:=match xs[k]? with
 |some q=>decide (fQ fZ q p=0)
 |none=>false
def qY(xs:ae (ae Int))(p:ae Int):Nat:=zA (MC xs p) 0 xs.length
variable{p:ae Int}
def RV:qY xs p<=xs.length:=anQ _ _ _ (bz _) (bS _)
def ZZ{va vb:ah}{xs ys:ae Int}(hal:xs.length<=1000000)(hbl:ys.length<=1000000):
 eU prog 107 [va,vb] [aA ai va xs,aA ai vb ys] (iV (fQ fZ xs ys)):=by
 refine gB 107 λB w0=>?_;refine gC (Y6 (xs:=xs) (ys:=ys) hal hbl) λ_ _=>?_;exact fH
def anR{vp:ah}(hl:xs.length<=1000000)(hls:∀q∈xs,q.length<=1000000)(hpl:p.length<=1000000):
 bA prog (.func 106) [v,vp,.func (.func 107) #[] #[]] [] [ap (az ai) v xs] [aA ai vp p] (λ_:Unit=>.tuple ⟨[iV (qY xs p:Int),.bool (Db xs p (qY xs p))]⟩) (λ_=>[ap (az ai) v xs]) (λ_=>[]) (λ_=>True):=by
 refine gB 106 λB w0=>?_;refine K6 (E:=az ai) (v:=v) (xs:=xs) λav eav hnil=>?_;subst eav;refine gL (λy:Nat×Nat=>y.2 - y.1) (λy=>[(9,iV (y.1:Int)),(10,iV (y.2:Int))]) (λy=>y.1<=y.2/\y.2<=xs.length/\zA (MC xs p) y.1 y.2=qY xs p) (0,xs.length) ⟨bS _,bz _,rfl⟩ ?_;rintro⟨a,b⟩ ⟨hab,hb,hbs⟩;dsimp only at hab hb hbs⊢;refine aP ?_ ?_<;>intro h1
 .have hsh:(a+b)>>>1=(a+b)/2:=Nf _ _;have Gp:a<=(a+b)/2/\(a+b)/2<b:=by omega
  rw[zA,dif_pos p0]at hbs;generalize hm:(a+b)/2=m at Gp hbs hsh;refine go ?_;rw[show(a:Int)+(b:Int)=((a+b:Nat):Int)by omega];refine(bV rfl rfl (uM (k:=.u64) (m:=((a+b:Nat):Int)) (by kernel_rfl:prog.underlying 3=some (.int .i64)) qk rfl (KN p0))).h ?_;refine(bV rfl rfl (Pw (a:=a+b) (b:=1) rfl rfl p0)).h ?_;rw[hsh];refine(bV rfl rfl (uM (k:=.i64) (m:=(m:Int)) (by kernel_rfl:prog.underlying 53=some (.int .u64)) qk rfl (wrapN p0))).h ?_;refine go ?_;have hq:xs[m]? =some (xs[m]'(p0)):=bH _;generalize hqe:xs[m]'(p0)=q at hq;have hlt:MC xs p m=decide (fQ fZ q p<0):=by unfold MC;rw[hq]
  refine MB m q hq λ_ _ vq=>?_;refine gC (ZZ (xs:=q) (ys:=p) (hls q (aV hq)) hpl) λ_ _=>?_;refine aP ?_ ?_<;>intro h2
  .rw[hlt,fo h2,if_pos rfl]at hbs;refine go ?_;exact aY (m+1,b) (by show b - (m+1)<b - a;omega) ⟨by show m+1<=b;omega,hb,hbs⟩
  .rw[hlt,di h2,if_neg qe]at hbs;refine go ?_;exact aY (a,m) (by show m - a<b - a;omega) ⟨by show a<=m;omega,by show m<=_;omega,hbs⟩
 have hba:a=b:=p0
 subst hba;have hbe:qY xs p=a:=by rw[<- hbs,zA,dif_neg (M5 a)]
 rw[hbe];refine go ?_;by_cases ha:((a:Int)<(xs.length:Int))
 .rw[fo ha];have hq:xs[a]? =some (xs[a]'(p0)):=bH _;generalize hqe:xs[a]'(p0)=q at hq;have he:Db xs p a=decide (fQ fZ q p=0):=by unfold Db;rw[hq]
  refine go ?_;refine MB a q hq λ_ _ vq=>?_;refine gC (ZZ (xs:=q) (ys:=p) (hls q (aV hq)) hpl) λ_ _=>?_;refine go ?_;exact oM () (hv:=by rw[he];rfl) (hp:=trivial)
 .rw[di ha];have he:Db xs p a=false:=by unfold Db;rw[dY p0]
  refine go ?_;exact oM () (hv:=by rw[he];rfl) (hp:=trivial)
variable{vb:Nat}
def anT{c:aj Nat}(hn:(xs.length+1)*24<=1073741824):
 bA prog (.func 108) [gv (az ai).n c xs.length,iV (xs.length:Int),.slice (some ⟨vb,0,some 0⟩) 1 1] [] [ap (az ai) (gv (az ai).n c xs.length) xs,pt vb (.cells [v])] [aA ai v p]
  (λc:Nat=>.slice (some ⟨c,0,some (az ai).n⟩) (xs.length+1) (xs.length+1)) (λc=>[ap (az ai) (.slice (some ⟨c,0,some (az ai).n⟩) (xs.length+1) (xs.length+1)) (xs++[p])]) (λ_=>[]) (λ_=>True):=by
 refine nZ RU ZX λB w0=>?_;cases c with
 |none=>
  by_cases h0:0<xs.length
  .exact Xb (E:=az ai) (xs:=xs) h0 (hk:=w7)
  have hx:xs=[]:=mo.1 p0;subst hx;dsimp only[gv,List.length_nil];refine go ?_;refine(bV (v:=.slice none 0 0) rfl rfl (λh=>rfl)).h ?_;refine go ?_;refine K3 (az ai) (v:=.slice none 0 0) (xs:=[]) p v ⟨qv,qv,qv⟩ (hk:=w7) (next:=λc2=>?_);exact nl
 |some c=>
  dsimp only[gv];refine go ?_;refine(bV rfl rfl (PS (b:=c) (o:=0) (f:=1) (m:=xs.length) (c:=xs.length) (lo:=xs.length) (hi:=xs.length) rfl (.inr rfl) Nat.one_pos (.inr ⟨_,rfl,rfl⟩) (.inl ⟨rfl,rfl⟩) (bz _) (bz _))).h ?_;refine aP ?_ ?_<;>intro h2
  rotate_left
  .exact absurd rfl h2
  refine go ?_;refine K3 (az ai) (v:=.slice (some ⟨c,0,some (az ai).n⟩) xs.length xs.length) (xs:=xs) p v ⟨p0,p0,p0⟩ (next:=λc2=>?_);exact nl
def anU:∃fn body,prog.funcs[108]? =some fn/\fn.body=some body/\fn.name≠ "runtime.NumGoroutine" :=by
 obtain⟨fn,h1,h2⟩:=LQ.fn 108 RU ZX;have h3:prog.funcs[108]? =some fn:=h1;have h4:(fn.name== "runtime.NumGoroutine")=false:=by
  have e:(prog.funcs[108]?).map (λf=>f.name== "runtime.NumGoroutine")=some false:=qk
  exact fg
 have h5:fn.body.isSome=true:=by
  have e:(prog.funcs[108]?).map (λf=>f.body.isSome)=some true:=qk
  exact fg
 exact fh
variable{i:Nat}
def anV{c:aj Nat}(hi:i<=xs.length)(hn:(xs.length+1)*24<=1073741824):
 bA prog (.func 108) [gv (az ai).n c xs.length,iV (i:Int),.slice (some ⟨vb,0,some 0⟩) 1 1] [] [ap (az ai) (gv (az ai).n c xs.length) xs,pt vb (.cells [v])] [aA ai v p]
  (λc:Nat=>.slice (some ⟨c,0,some (az ai).n⟩) (xs.length+1) (xs.length+1)) (λc=>[ap (az ai) (.slice (some ⟨c,0,some (az ai).n⟩) (xs.length+1) (xs.length+1)) (j5 xs i p)]) (λ_=>[]) (λ_=>True):=by
 by_cases hie:i=xs.length
 .subst hie;have e:j5 xs xs.length p=xs++[p]:=by unfold j5;rw[eH,List.drop_length]
  rw[e];exact anT hn
 cases c with
 |none=>
  intro B w s;obtain⟨S,⟨S1,S2,q1,q2,ee⟩,h2,h3⟩:=s.own;rcases q1 with⟨h,_⟩|⟨b,o,fl,cells,e1,_⟩
  .rw[h]at hi hie;exact absurd (Nat.le_antisymm hi (bS _)) hie
  .cases e1
 |some c=>
  obtain⟨fn,body,hf,hb,hnm⟩:=anU;exact aij (E:=az ai) rfl (.sl0 0 0) rfl anM hf hb hnm (ad:=some ⟨c,0,some (az ai).n⟩) (xs:=xs) (a:=p) (y:=v) (x:=v) rfl p0 p0
def pY(l:ae (ae Int))(p:ae Int):ae (ae Int):=if Db l p (qY l p)=true then l else j5 l (qY l p) p
def nA(g:bM):ae (ae Int):=(sK g).foldl pY []
variable{l:ae (ae Int)}
def anW:(pY l p).length<=l.length+1:=by
 unfold pY;split
 .omega
 .rw[Cz RV];exact bz _
variable{q:ae Int}
def anX(h:q∈pY l p):q∈l\/q=p:=by
 unfold pY at h;split at h
 .exact .inl h
 .unfold j5 at h;rcases fO.1 h with h|h
  .exact .inl (Bt h)
  .rcases bN.1 h with h|h
   .exact .inr h
   .exact .inl (Dj h)
def Z0(xs l:ae (ae Int)):(xs.foldl pY l).length<=l.length+xs.length:=by
 induction xs generalizing l with
 |nil=>exact bz _
 |cons x xs ih=>rw[p9];have:=ih (pY l x);have:=anW (l:=l) (p:=x);rw[lU];omega
def Z4(xs l:ae (ae Int))(h:q∈xs.foldl pY l):q∈l\/q∈xs:=by
 induction xs generalizing l with
 |nil=>exact .inl h
 |cons x xs ih=>
  rw[p9]at h;rcases ih _ h with h|h
  .rcases anX h with h|h
   .exact .inl h
   .exact .inr (by rw[h];exact dP ..)
  .exact .inr (dO _ h)
def Z5(g:bM):(sK g).length<=12:=by
 unfold sK;refine mh (SK ..) ?_;unfold jP;split<;>simp[Bj]
variable{g:bM}
def RX(h:q∈sK g):q.length=g.cells.length:=by
 unfold sK at h;obtain⟨f,_,hf⟩:=IM.1 h;unfold sJ at hf;dsimp only at hf;split at hf
 .rename_i h2;injection hf with hf;rw[<- hf,h2];unfold fJ;rw[aS,aS]
 .cases hf
def Z6(h:q∈nA g):q.length=g.cells.length:=by
 unfold nA at h;rcases Z4 _ _ h with h|h
 .cases h
 .exact RX h
def Z7(g:bM):(nA g).length<=12:=by
 unfold nA;have h1:=Z0 (sK g) [];have h2:=Z5 g;rw[wU]at h1;omega
abbrev Dc(b n:Nat)(ys:ae (ae Int)):OA:=GU λc:aj Nat=>[pt b (.cells [gv (az ai).n c n]),ap (az ai) (gv (az ai).n c n) ys]
def anY{vh vc:ah}(hS:xQ g)(hg:fT g):
 bA prog (.func 64) [.agg ⟨mI g vh vc⟩] [] [] (qV g vh vc) (λc:aj Nat=>.tuple ⟨[gv (az ai).n c (nA g).length,iV 0]⟩) (λc=>[ap (az ai) (gv (az ai).n c (nA g).length) (nA g)]) (λ_=>[]) (λ_=>True):=by
 have hcl:=hg.len;refine GV _ (uw 64) λB w0=>?_;dsimp only[qV];refine go ?_;intro b1 b2;refine gC (QS (g:=g) (vh:=vh) (vc:=vc) hS) λe he=>?_;have he0:e=0:=he.2 hg;subst he0;refine gC (anL (g:=g) (vh:=vh) (vc:=vc)) λbg _=>?_;try dsimp only[List.cons_append,List.nil_append]
 refine go ?_;refine mF (az ai) ?_;rw[show Value.slice none 0 0=gv (az ai).n none 0 from rfl];refine yY (λc:aj Nat=>[pt b2 (.cells [gv (az ai).n c 0]),ap (az ai) (gv (az ai).n c 0) ([]:ae (ae Int))]) none (h:=?_);refine Cy (A:=Dc b2 0 ([]:ae (ae Int))) (A':=Dc b2 ([]:ae (ae Int)).length ([]:ae (ae Int))) rfl ?_;refine ahF (Z:=Nat) (λ(ys:ae (ae Int)) (x:ah×ae Int)=>(pY ys x.2,Out.normal)) (λys=>[Dc b2 ys.length ys]) (λvs ys=>ys=(vs.map (·.2)).foldl pY []) [] _ (λ_ _=>[]) rfl (λvs s x rest hs hX _=>by rw[hs,dQ,wX];rfl)
  (anI (bg:=bg) (g:=g) (vh:=vh) (vc:=vc) hg)
  (by intro s x lo o B w0;dsimp only[List.cons_append,List.nil_append,List.zip_cons_cons,List.zip_nil_left,List.reverse_cons,List.reverse_nil];refine go ?_;have z0:Nat:=0;exact Es z0 rfl) ?_ ?_ (λ_ _=>trivial)
 .rintro fI s ⟨vx,x⟩ rest z lo L B w0 hs hX;dsimp only[List.cons_append,List.nil_append]at hX⊢;have hxm:x∈sK g:=by rw[<- hX];simp
  have hxl:=RX hxm;have hsl:s.length<=12:=by
   have h1:=Z0 (fI.map (·.2)) [];have h2:=congrArg List.length hX;have h3:=Z5 g;rw[aS,dL,lU]at h2;rw[hs];rw[aS]at h1;simp only[wU]at h1;omega
  have hse:∀q∈s,q.length<=1000000:=λq hq=>by
   rw[hs]at hq;rcases Z4 _ _ hq with h|h
   .cases h
   .have:q∈sK g:=by rw[<- hX,dQ];exact jS _ h
    rw[RX this];omega
  refine AA (h:=λc=>?_);refine gF ai vx x λax cx ex=>?_;subst ex;generalize hv:gv (az ai).n c s.length=v;refine gC (anR (v:=v) (vp:=.slice ax x.length cx) (xs:=s) (p:=x) p0 hse p0) λ_ _=>?_;refine go ?_;cases hb:Db s x (qY s x)with
  |true=>
   have hi:pY s x=s:=by unfold pY;rw[if_pos hb]
   rw[hi];refine go ?_;subst hv;refine yY (λc:aj Nat=>[pt b2 (.cells [gv (az ai).n c s.length]),ap (az ai) (gv (az ai).n c s.length) s]) c (h:=?_);exact gj
  |false=>
   have hi:pY s x=j5 s (qY s x) x:=by unfold pY;rw[if_neg (by rw[hb];simp)]
   rw[hi];refine go ?_;intro b27;subst hv;refine gC (anV (c:=c) (xs:=s) (p:=x) (v:=.slice ax x.length cx) (vb:=b27) (i:=qY s x) RV p0) λc2 _=>?_;refine go ?_;have hlen:(j5 s (qY s x) x).length=s.length+1:=Cz RV;rw[show Value.slice (some ⟨c2,0,some (az ai).n⟩) (s.length+1) (s.length+1)=gv (az ai).n (some c2) (j5 s (qY s x) x).length by rw[hlen];rfl];refine yY (λc:aj Nat=>[pt b2 (.cells [gv (az ai).n c (j5 s (qY s x) x).length]),ap (az ai) (gv (az ai).n c (j5 s (qY s x) x).length) (j5 s (qY s x) x)]) (some c2) (h:=?_);exact AB () rfl trivial trivial
 .intro r xs hX;have hrun:∀(zs:ae (ah×ae Int)) (ys:ae (ae Int)),jF (λ(ys:ae (ae Int)) (x:ah×ae Int)=>(pY ys x.2,Out.normal)) ys zs=((zs.map (·.2)).foldl pY ys,.normal):=by
   intro zs;induction zs with
   |nil=>intro ys;rfl
   |cons z zs ih=>intro ys;rw[jF];simp only[ih];rfl
  have hX:xs.map (·.2)=sK g:=hX;rw[hrun,hX,show(sK g).foldl pY []=nA g from rfl];dsimp only[List.cons_append,List.nil_append];refine AA (h:=λc=>?_);cases c with
  |none=>
   dsimp only[gv];refine go ?_;exact Cn none (hv:=rfl) (hp:=trivial) (hk:=qn)
  |some c=>
   dsimp only[gv];refine go ?_;exact Cn (some c) (hv:=rfl) (hp:=trivial) (hk:=qn)
noncomputable def aaq:gK:=⟨147,[(.tmp 4),(.tmp 5)],(.seq (kO [kS 4 (.pq (.const vS)),kS 5 (.pq (.const (iV 0)))]) (.seq (.seq (kO [kM 18 0,kS 19 (.bin .lss 3 18 (.const (iV 0))),kM 20 19,kH 21 20 (.mv 0),kH 22 20 (.bin .gtr 3 21 (.const (iV 256))),kS 23 (.pick 20 kT 22)]) (.cond 23 (.seq (kO [kS 4 (.pq (.const vS)),kS 5 (.pq (.const (iV 140)))]) .ret) .skip)) (.seq (kO [kM 24 1,kS 25 (.yz 24),kS 26 (.zY 121 1 24 [vS] 25 25),kS 6 (.new [vS] 143),kN (.store 1 6 26)]) (.seq (.seq (kO [kM 27 1,kS 28 (.yz 27),kS 29 (.mv (.const (iV 0)))]) (.block 0 (.loop (.seq (kO [kS 30 (.bin .lss 3 29 28)]) (.seq (.cond 30 .skip (.exit 0)) (.seq (.block 1 (.seq (kO [kM 31 29,kS 32 (.oz 1 27 29),kS 33 (.gJ 32),kS 7 (.pq 31),kS 8 (.pq 33)]) (.seq (kO [kS 34 (.gJ 6),kM 35 7,kM 36 0,kS 37 (.zY 4 1 1 [(.bool false)] 36 36),kS 38 (.oz 1 34 35),kN (.store 1 38 37)]) (.seq (kO [kM 39 8,kS 40 (.yz 39),kS 41 (.mv (.const (iV 0)))]) (.block 2 (.loop (.seq (kO [kS 42 (.bin .lss 3 41 40)]) (.seq (.cond 42 .skip (.exit 2)) (.seq (.block 3 (.seq (kO [kS 43 (.oz 1 39 41),kS 44 (.gJ 43),kS 10 (.pq 44)]) (.seq (.seq (kO [kM 45 10,kS 46 (.bin .lss 3 45 (.const (iV 0))),kM 47 46,kH 48 47 (.mv 10),kH 49 47 (.mv 0),kH 50 47 (.bin .geq 3 48 49),kS 51 (.pick 47 kT 50),kM 52 51,kH 53 52 (.gJ 6),kH 54 52 (.mv 7),kH 55 52 (.oz 1 53 54),kH 56 52 (.gJ 55),kH 57 52 (.mv 10),kH 58 52 (.oz 1 56 57),kH 59 52 (.gJ 58),kS 60 (.pick 52 kT 59)]) (.cond 60 (.seq (kO [kS 4 (.pq (.const vS)),kS 5 (.pq (.const (iV 140)))]) .ret) .skip)) (kO [kS 61 (.gJ 6),kM 62 7,kS 63 (.oz 1 61 62),kS 64 (.gJ 63),kM 65 10,kS 66 (.oz 1 64 65),kN (.store 1 66 kT)])))) (kO [kS 67 (.bin .add 3 41 (.const (iV 1))),kM 41 67])))))))))) (kO [kS 68 (.bin .add 3 29 (.const (iV 1))),kM 29 68]))))))) (.seq (.seq (kO [kM 69 1,kS 70 (.yz 69),kS 71 (.mv (.const (iV 0)))]) (.block 4 (.loop (.seq (kO [kS 72 (.bin .lss 3 71 70)]) (.seq (.cond 72 .skip (.exit 4)) (.seq (.block 5 (.seq (kO [kM 73 71,kS 74 (.oz 1 69 71),kS 75 (.gJ 74),kS 11 (.new [(iV 0)] 3),kN (.store 1 11 73),kS 12 (.pq 75)]) (.seq (kO [kS 76 (.gJ 11),kS 77 (.bin .add 3 76 (.const (iV 1))),kS 13 (.pq 77)]) (.block 6 (.loop (.seq (.seq (kO [kM 78 13,kM 79 1,kS 80 (.yz 79),kS 81 (.bin .lss 3 78 80)]) (.cond 81 .skip (.exit 6))) (.seq (.block 7 (.seq (kO [kM 84 1,kM 85 13,kS 86 (.oz 1 84 85),kS 87 (.gJ 86),kS 14 (.pq 87)]) (.seq (.seq (kO [kM 88 12,kS 89 (.yz 88),kS 90 (.bin .eql 3 89 (.const (iV 0))),kM 91 90,kH 92 91 (.mv 12),kH 93 91 (.yz 92),kH 94 91 (.mv 14),kH 95 91 (.yz 94),kH 96 91 (.bin .neq 3 93 95),kS 97 (.pick 91 kT 96),kM 98 97,kH 99 98 (.mv 14),kH 100 98 (.Dt (.func 110) [] [6,11]),kH 101 98 (kC 109 [99,100]),kS 102 (.pick 98 kT 101)]) (.cond 102 (.exit 7) .skip)) (.seq (kO [kM 103 0,kS 104 (.zY 3 1 8 [(iV 0)] 103 103),kS 15 (.pq 104)]) (.seq (.seq (kO [kM 105 15,kS 106 (.yz 105),kS 107 (.mv (.const (iV 0)))]) (.block 8 (.loop (.seq (kO [kS 108 (.bin .lss 3 107 106)]) (.seq (.cond 108 .skip (.exit 8)) (.seq (.block 9 (.seq (kO [kM 109 107,kS 16 (.pq 109)]) (kO [kM 110 15,kM 111 16,kM 112 16,kS 113 (.oz 1 110 111),kN (.store 1 113 112)]))) (kO [kS 114 (.bin .add 3 107 (.const (iV 1))),kM 107 114]))))))) (.seq (.seq (kO [kM 115 12,kS 116 (.yz 115),kS 117 (.mv (.const (iV 0)))]) (.block 10 (.loop (.seq (kO [kS 118 (.bin .lss 3 117 116)]) (.seq (.cond 118 .skip (.exit 10)) (.seq (.block 11 (.seq (kO [kM 119 117,kS 17 (.pq 119)]) (kO [kM 120 15,kM 121 12,kM 122 17,kS 123 (.oz 1 121 122),kS 124 (.gJ 123),kM 125 15,kM 126 14,kM 127 17,kS 128 (.oz 1 126 127),kS 129 (.gJ 128),kM 130 14,kM 131 17,kS 132 (.oz 1 130 131),kS 133 (.gJ 132),kM 134 12,kM 135 17,kS 136 (.oz 1 134 135),kS 137 (.gJ 136),kS 138 (.oz 1 120 124),kN (.store 1 138 133),kS 139 (.oz 1 125 129),kN (.store 1 139 137)]))) (kO [kS 140 (.bin .add 3 117 (.const (iV 1))),kM 117 140]))))))) (kO [kM 141 4,kM 142 15,⟨⟨(some 143),none,(.zX 22 1 [vS] [⟨0,⟨1,142⟩⟩])⟩,[]⟩,kS 144 (.append 22 1 24 141 143),kS 4 (.pq 144)]))))))) (kO [kM 82 13,kS 83 (.bin .add 3 82 (.const (iV 1))),kS 13 (.pq 83)])))))))) (kO [kS 145 (.bin .add 3 71 (.const (iV 1))),kM 71 145]))))))) (.seq (kO [kM 146 4,kS 4 (.pq 146),kS 5 (.pq (.const (iV 0)))]) .ret))))))⟩
def aoE:lu prog 65=some aaq:=qk
def kZ(n:Nat)(L:ae Int):ae Bool:=(List.range n).map λc:Nat=>decide ((c:Int)∈L)
def Iw(n:Nat)(L:ae Int):(kZ n L).length=n:=by unfold kZ;rw[aS,nP]
variable{c:Nat}{L:ae Int}
def Iy(h:c<n):(kZ n L)[c]? =some (decide ((c:Int)∈L)):=by
 unfold kZ;rw[bU,qw h];rfl
def an0(h:c<n):(kZ n L).set c true=kZ n (L++[(c:Int)]):=by
 refine iK λk=>?_;rw[ow,Iw];by_cases hk:k<n
 .rw[Iy hk];by_cases e:c=k
  .subst e;rw[if_pos rfl,if_pos hk,Iy hk];congr 1;exact(fo (ou _ (bF.2 rfl))).symm
  .rw[if_neg e,Iy hk];congr 1;refine sP.2 ?_;rw[fO,bF];exact⟨.inl,λh=>h.elim id λh=>absurd (Int.ofNat.inj h).symm e⟩
 .have e1:(kZ n L)[k]? =none:=dY (by rw[Iw];omega);have e2:(kZ n (L++[(c:Int)]))[k]? =none:=dY (by rw[Iw];omega);rw[e1,e2,if_neg p0]
def an1(n:Nat):zeros [.bool false] n=(kZ n []).map .bool:=by
 have:kZ n []=List.replicate n false:=by
  unfold kZ;rw[List.eq_replicate_iff];exact⟨by rw[aS,nP],λb hb=>by obtain⟨c,_,rfl⟩:=cZ.1 hb;exact di qe⟩
 rw[this];have key:∀n:Nat,zeros [.bool false] n=(List.replicate n false).map .bool:=by
  intro n;exact ov
 exact key n
variable{b:Nat}
def Vl{xs:ae Bool}(h:xs.length=n):pM (pt b (.cells (xs.map .bool))) [aA qJ (.slice (some ⟨b,0,some 0⟩) n n) xs]:=by
 subst h;intro w w' S ⟨h1,h2⟩ hle hh hz g hg;rw[bF.1 hg];refine .inr ⟨b,0,0,_,_,⟨rfl,bz _,.inl rfl⟩,⟨hz b rj,.inl sn⟩,λk x hk=>⟨(),λj u hj=>?_,λf hf=>by cases hf⟩⟩;match j,hj with
 |0,hj=>
  have hj:some (Value.bool x)=some u:=hj;rw[show 0+k*qJ.n+0=k by show 0+k*1+0=k;omega,bU,hk];exact hj
 |j+1,hj=>cases hj
def Fa(vs:ae ah)(rows:ae (ae Bool)):aH:=⟨λw=>∀(k:Nat) v r,vs[k]? =some v->rows[k]? =some r->(aA qJ v r).p w,λa h k v r h1 h2=>(aA qJ v r).mono a (h k v r h1 h2)⟩
variable{rows:ae (ae Bool)}
def an2{m:Nat}{vs:ae ah}{w:Wd}(h1:(dx b 0 vs).p w)(h2:(Fa vs rows).p w)(hv:vs.length=m)(hr:rows.length=m):(aA (az qJ) (.slice (some ⟨b,0,some 0⟩) m m) rows).p w:=by
 obtain⟨cells,q1,q2⟩:=h1;subst hr;refine .inr ⟨b,0,0,_,cells,⟨rfl,bz _,.inl rfl⟩,q1,λk r hk=>?_⟩;have hlt:=(aT.1 hk).1;have hv2:vs[k]? =some (vs[k]'(p0)):=bH _;refine⟨vs[k]'(p0),λj u hj=>?_,λf hf=>by rw[bF.1 hf];exact h2 k _ r hv2 hk⟩;match j,hj with
 |0,hj=>
  have hj:some (vs[k]'(p0))=some u:=hj;have:=q2 k _ hv2;rw[show 0+k*(az qJ).n+0=0+k by show 0+k*1+0=0+k;omega,this];exact hj
 |j+1,hj=>cases hj
def an3{b1 b2 m:Nat}{vs:ah}{r:ae Bool}{x:Bool}(hr:rows[i]? =some r)(hx:r[c]? =some x):
 QD prog (.func 110) [] [ptr' b1,ptr' b2] (iV (c:Int)) [dx b1 0 [vs],dx b2 0 [iV (i:Int)],aA (az qJ) vs rows] x:=by
 have hi:=(aT.1 hr).1;have hc:=(aT.1 hx).1;refine gB 110 λB w0=>?_;refine gX (az qJ) (xs:=rows) (k:=i) λ_ _ r2 (vr:ah) hr2=>?_;rw[hr]at hr2;obtain rfl:=Option.some.inj hr2;refine go ?_;intro _ _ x2 hx2;rw[hx]at hx2;obtain rfl:=Option.some.inj hx2;exact gQ () trivial
def kR:ae Int->ae Int->ae Int->ae Int
 |p,x::a,y::b=>kR ((p.set x.toNat y).set y.toNat x) a b
 |p,_,_=>p
def ME:∀(a b p:ae Int),(kR p a b).length=p.length
 |[],_,p=>by rw[kR];intro x a y b h;cases h
 |x::a,[],p=>by rw[kR];intro x a y b _ h;cases h
 |x::a,y::b,p=>by rw[kR,ME a b,jD,jD]
def Z8:∀(a b p:ae Int) (x y:Int),a.length=b.length->kR p (a++[x]) (b++[y])=((kR p a b).set x.toNat y).set y.toNat x
 |[],[],p,x,y,_=>by simp[kR]
 |[],_::_,_,_,_,h=>by cases h
 |_::_,[],_,_,_,h=>by cases h
 |u::a,v::b,p,x,y,h=>by
  show kR p (u::(a++[x])) (v::(b++[y]))=_;rw[kR,Z8 a b _ x y qS];rfl
def qm(a b:ae Int):Bool:=!(decide (a.length=0))&&decide (a.length=b.length)&&!(b.any λc=>decide (c∈a))
def zB(n:Nat)(lists:ae (ae Int))(i:Nat):ae (ae Int):=match lists[i]? with
 |some a=>((lists.drop (i+1)).filter (qm a)).map (kR (upTo' n) a)
 |none=>[]
def lS(n:Nat)(lists:ae (ae Int)):ae (ae Int):=(List.range lists.length).flatMap (zB n lists)
variable{lists:ae (ae Int)}
def an4:(zB n lists i).length<=lists.length:=by
 unfold zB;split
 .rw[aS];refine mh (FB ..) ?_;rw[lm];omega
 .exact bS _
def RY{n:Nat}{lists:ae (ae Int)}:∀i,((List.range i).flatMap (zB n lists)).length<=i*lists.length
 |0=>bS _
 |i+1=>by
  rw[BF,SE,dL,qx,zP];have h1:=RY (n:=n) (lists:=lists) i;have h2:(List.flatMap (zB n lists) [i]).length<=lists.length:=by
   rw[List.flatMap_singleton];exact an4
  omega
def RZ(hn:n<=256)(hm:lists.length<=4096)(hv:∀l∈lists,kP n l/\l.Nodup)(hb:∀l∈lists,l.length<=1000000):
 bA prog (.func 65) [iV (n:Int),v] [] [] [aA (az ai) v lists] (λw:ah=>.tuple ⟨[w,iV 0]⟩) (λw=>[ap (az ai) w (lS n lists)]) (λ_=>[]) (λ_=>True):=by
 refine nZ aaq aoE λB w0=>?_;refine gF (az ai) v lists λal cl el=>?_;subst el;refine aP ?_ ?_<;>intro h1
 .exfalso;omega
 refine go ?_;refine ww lists.length ⟨p0,p0,p0⟩ λbs=>?_;have hz:zeros [Value.slice none 0 0] lists.length=List.replicate lists.length (.slice none 0 0):=by
  induction lists.length with
  |zero=>rfl
  |succ n ih=>rw[wV,<- ih];rfl
 rw[hz];refine go ?_;intro b6;refine go ?_;refine iN (Fa [] ((lists.take 0).map (kZ n))) (λw _ k v r h _=>by cases h) ?_;refine dS (λy:Nat×ae ah=>lists.length - y.1) (λy=>[(29,iV (y.1:Int))]) (λy=>[pt bs (.cells (y.2++List.replicate (lists.length - y.1) (.slice none 0 0)))]) (λy=>[Fa y.2 ((lists.take y.1).map (kZ n))]) (λy=>y.1<=lists.length/\y.2.length=y.1) (0,[]) ⟨bS _,rfl⟩ (hk:=qn) (body:=?_);rintro⟨i,vs⟩ ⟨hi,hvl⟩;dsimp only at hi hvl⊢;refine aP ?_ ?_<;>intro h2
 .refine gX (az ai) (xs:=lists) λ_ _ L (vL:ah) hL=>?_;have Iz:=aV hL;obtain⟨hLr,hLn⟩:=hv L Iz;have hLb:=hb L Iz;refine gF ai vL L λaL cL eL=>?_;subst eL;refine go ?_;refine ww n ⟨p0,p0,p0⟩ λbr=>?_;rw[an1];refine go ?_;have hset:(vs++List.replicate (lists.length - i) (Value.slice none 0 0)).set (0+i*1) (.slice (some ⟨br,0,some 0⟩) n n)=(vs++[.slice (some ⟨br,0,some 0⟩) n n])++List.replicate (lists.length - (i+1)) (.slice none 0 0):=by
   rw[zQ _ _ p0,show 0+i*1 - vs.length=0 by omega,show lists.length - i=(lists.length - (i+1))+1 by omega,wV,fq];rfl
  refine jG (b:=bs) (o:=0+i*1) (cs:=vs++List.replicate (lists.length - i) (.slice none 0 0)) (v:=.slice (some ⟨br,0,some 0⟩) n n) (cs':=(vs++[.slice (some ⟨br,0,some 0⟩) n n])++List.replicate (lists.length - (i+1)) (.slice none 0 0)) hset (by rw[dL,zS];omega) ?_;have hget:((vs++[.slice (some ⟨br,0,some 0⟩) n n])++List.replicate (lists.length - (i+1)) (Value.slice none 0 0))[0+i*1]? =some (.slice (some ⟨br,0,some 0⟩) n n):=by
   rw[iY (by rw[dL,qA];omega),jm p0,show 0+i*1 - vs.length=0 by omega];rfl
  refine go ?_;generalize hcs:(vs++[.slice (some ⟨br,0,some 0⟩) n n])++List.replicate (lists.length - (i+1)) (Value.slice none 0 0)=CS at hget⊢;refine dS (λj:Nat=>L.length - j) (λj=>[(41,iV (j:Int))]) (λj=>[pt br (.cells ((kZ n (L.take j)).map .bool))]) (λ_=>[]) (λj=>j<=L.length) 0 (bS _) (hk:=qn) (body:=?_);intro j hj;refine aP ?_ ?_<;>intro h3
  .refine go ?_;intro _ _ x hx;have nO:=hLr x (aV hx);obtain⟨cn,rfl⟩:=iQ nO.1;have hcn:cn<n:=by omega
   have hnot:((cn:Int))∉L.take j:=λh=>by
    obtain⟨k,hk⟩:=ik h;rw[qy]at hk;split at hk
    .rename_i hkj;have:=(List.getElem?_inj p0 hLn).1 (hk.trans hx.symm);omega
    .cases hk
   refine go ?_;rw[di (show¬((n:Int)<=(cn:Int))by omega)];refine go ?_;refine oN (b:=bs) (o:=0+i*1) (cs:=CS) (.slice (some ⟨br,0,some 0⟩) n n) hget ?_;refine go ?_;refine oN (b:=br) (o:=0+cn*1) (cs:=(kZ n (L.take j)).map .bool) (.bool false) (by rw[show 0+cn*1=cn by omega,bU,Iy hcn,di hnot];rfl) ?_;refine go ?_;refine oN (b:=bs) (o:=0+i*1) (cs:=CS) (.slice (some ⟨br,0,some 0⟩) n n) hget ?_;refine go ?_;refine jG (b:=br) (o:=0+cn*1) (cs:=(kZ n (L.take j)).map .bool) (v:=.bool true) (cs':=(kZ n (L.take (j+1))).map .bool) (by rw[show 0+cn*1=cn by omega,<- ul,an0 hcn,gz hx]) (by rw[aS,Iw];omega) ?_;exact cR
  obtain rfl:j=L.length:=p0
  rw[eH];refine gZ (Vl (Iw n L)) ?_;refine go ?_;subst hcs;refine iN (Fa (vs++[.slice (some ⟨br,0,some 0⟩) n n]) ((lists.take (i+1)).map (kZ n))) (λw hw k v r hv hr=>?_) ?_
  .rw[gz hL,dQ]at hr;have hll:((lists.take i).map (kZ n)).length=i:=by rw[aS,gq];omega
   by_cases hk:k<i
   .rw[iY p0]at hv hr;exact hw (Fa vs ((lists.take i).map (kZ n))) qe k v r hv hr
   .rw[jm p0]at hv hr;have hk0:k=i:=by
     have:=(aT.1 hv).1;simp at this;omega
    subst hk0;rw[hvl,mM]at hv;rw[hll,mM]at hr;cases hv;cases hr;exact hw (aA qJ (.slice (some ⟨br,0,some 0⟩) n n) (kZ n L)) qe
  exact aY (i+1,vs++[.slice (some ⟨br,0,some 0⟩) n n]) AI ⟨by show i+1<=_;omega,by show(vs++_).length=i+1;rw[dL,hvl];rfl⟩
 obtain rfl:i=lists.length:=p0
 rw[mM,eH,show List.replicate 0 (Value.slice none 0 0)=[]from rfl,iH];refine gP bs ?_;refine gP b6 ?_;refine iN (aA (az qJ) (.slice (some ⟨bs,0,some 0⟩) lists.length lists.length) (lists.map (kZ n))) (λw hw=>an2 (hw (dx bs 0 vs) qe) (hw (Fa vs (lists.map (kZ n))) qe) hvl (by rw[aS])) ?_;refine go ?_;refine mF (az ai) ?_;refine dS (λy:Nat×ah×ae (ae Int)=>lists.length - y.1) (λy=>[(71,iV (y.1:Int)),(4,y.2.1)]) (λy=>[ap (az ai) y.2.1 y.2.2]) (λ_=>[]) (λy=>y.1<=lists.length/\y.2.2=(List.range y.1).flatMap (zB n lists)) (0,.slice none 0 0,[]) ⟨bS _,rfl⟩ (hk:=qn) (body:=?_);rintro⟨i,v4,ys⟩ ⟨hi,hys⟩;dsimp only at hi hys⊢;refine aP ?_ ?_<;>intro h3
 rotate_left
 .obtain rfl:i=lists.length:=by omega
  refine go ?_;exact gQ v4 trivial (hk:=by rw[hys];exact .cons .here .nil)
 refine gX (az ai) (xs:=lists) λ_ _ a (va:ah) ha=>?_;have Z9:=aV ha;obtain⟨har,han⟩:=hv a Z9;have hab:=hb a Z9;refine gF ai va a λaa ca ea=>?_;subst ea;refine go ?_;intro b11;refine go ?_;refine gP b11 ?_;have hbase:=RY (n:=n) (lists:=lists) i;rw[<- hys]at hbase;have hmul:i*lists.length<=4096*4096:=Nat.mul_le_mul p0 hm;refine dS (λy:Nat×ah×ae (ae Int)=>lists.length - y.1) (λy=>[(13,iV (y.1:Int)),(4,y.2.1)]) (λy=>[ap (az ai) y.2.1 y.2.2]) (λ_=>[]) (λy=>i+1<=y.1/\y.1<=lists.length/\y.2.2=ys++(((lists.drop (i+1)).take (y.1 - (i+1))).filter (qm a)).map (kR (upTo' n) a)) (i+1,v4,ys) ⟨bz _,by show i+1<=_;omega,by show ys=ys++_;rw[mM,List.take_zero];exact(iH _).symm⟩ (hk:=qn) (body:=?_);rintro⟨k,v5,zs⟩ ⟨hk1,hk2,hzs⟩;dsimp only at hk1 hk2 hzs⊢;refine aP ?_ ?_<;>intro h4
 rotate_left
 .obtain rfl:k=lists.length:=by omega
  refine go ?_;refine aY (i+1,v5,zs) AI ⟨by show i+1<=_;omega,?_⟩;show zs=(List.range (i+1)).flatMap (zB n lists);rw[BF,SE,<- hys,hzs,List.flatMap_singleton,zV ri];unfold zB;rw[ha]
 refine gX (az ai) (xs:=lists) λ_ _ b (vb:ah) hbk=>?_;have DV:=aV hbk;obtain⟨hbr,hbn⟩:=hv b DV;have hbb:=hb b DV;refine gF ai vb b λab cb eb=>?_;subst eb;have hnx:((lists.drop (i+1)).take (k+1 - (i+1))).filter (qm a)=((lists.drop (i+1)).take (k - (i+1))).filter (qm a)++(if qm a b=true then[b]else[]):=by
  have e:(lists.drop (i+1))[k - (i+1)]? =some b:=by rw[jR,show i+1+(k - (i+1))=k by omega];exact hbk
  rw[show k+1 - (i+1)=(k - (i+1))+1 by omega,gz e,Dp];congr 1;rw[Bz];split<;>rfl
 have skip:qm a b=false->zs=ys++(((lists.drop (i+1)).take (k+1 - (i+1))).filter (qm a)).map (kR (upTo' n) a):=λh=>by
  rw[hnx,h,if_neg qe,iH];exact hzs
 refine go ?_;by_cases ha0:((a.length:Int)=0)
 .rw[fo ha0];have ho:qm a b=false:=by unfold qm;rw[fo (show a.length=0 by omega)];rfl
  exact cT
 rw[di ha0];refine go ?_;by_cases hne:((a.length:Int)≠(b.length:Int))
 .rw[fo hne];have ho:qm a b=false:=by unfold qm;rw[di (show¬a.length=b.length by omega),Bool.and_false];rfl
  exact cT
 rw[di hne];have hlen:a.length=b.length:=p0
 refine gC (aj4 (fn:=.func 110) (first:=[]) (cap:=[ptr' b6,ptr' b11]) (F1:=[dx b6 0 [.slice (some ⟨bs,0,some 0⟩) lists.length lists.length],dx b11 0 [iV (i:Int)],aA (az qJ) (.slice (some ⟨bs,0,some 0⟩) lists.length lists.length) (lists.map (kZ n))]) (p:=λc=>decide (c∈a)) (va:=.slice ab b.length cb) (xs:=b) p0 (λx hx=>by
  have nO:=hbr x hx;obtain⟨cn,rfl⟩:=iQ nO.1;exact an3 (m:=0) (r:=kZ n a) (by rw[bU,ha];rfl) (Iy p0))) λ_ _=>?_
 refine go ?_;cases hany:b.any λc=>decide (c∈a)with
 |true=>
  have ho:qm a b=false:=by unfold qm;rw[hany,Bool.not_true,Bool.and_false]
  exact cT
 |false=>
  have ho:qm a b=true:=by unfold qm;rw[hany,di (show¬a.length=0 by omega),fo hlen];rfl
  have ar4:∀x∈b,x∉a:=λx hx h=>by
   have:=IY.1 hany x hx;exact this (fo h)
  refine go ?_;refine ww n ⟨p0,p0,p0⟩ λbp=>?_;rw[EX];refine go ?_;refine dS (λj:Nat=>n - j) (λj=>[(107,iV (j:Int))]) (λj=>[pt bp (.cells ((gW (upTo' j) n).map iV))]) (λ_=>[]) (λj=>j<=n) 0 (bS _) (hk:=qn) (body:=?_);intro j hj;have qi:=jL j;refine aP ?_ ?_<;>intro h5
  .refine go ?_;refine jG (b:=bp) (o:=0+j*1) (cs:=(gW (upTo' j) n).map iV) (v:=iV (j:Int)) (cs':=(gW (upTo' (j+1)) n).map iV) BY A0 ?_;exact cR
  obtain rfl:j=n:=p0
  rw[CY qi];refine go ?_;refine dS (λm:Nat=>a.length - m) (λm=>[(117,iV (m:Int))]) (λm=>[pt bp (.cells ((kR (upTo' j) (a.take m) (b.take m)).map iV))]) (λ_=>[]) (λm=>m<=a.length) 0 (bS _) (hk:=qn) (body:=?_);intro m hmm;refine aP ?_ ?_<;>intro h6
  .refine go ?_;intro _ _ x hx _ _ y hy _ _ y2 hy2 _ _ x2 hx2;rw[hy]at hy2;rw[hx]at hx2;obtain rfl:=Option.some.inj hy2;obtain rfl:=Option.some.inj hx2;have nO:=har x (aV hx);have hyr:=hbr y (aV hy);obtain⟨xn,rfl⟩:=iQ nO.1;obtain⟨yn,rfl⟩:=iQ hyr.1;have hrl:(kR (upTo' j) (a.take m) (b.take m)).length=j:=by rw[ME,qi]
   have hsn:kR (upTo' j) (a.take (m+1)) (b.take (m+1))=((kR (upTo' j) (a.take m) (b.take m)).set xn (yn:Int)).set yn (xn:Int):=by
    rw[gz hx,gz hy,Z8 _ _ _ _ _ (by rw[gq,gq];omega)];rfl
   refine go ?_;refine jG (b:=bp) (o:=0+xn*1) (cs:=(kR (upTo' j) (a.take m) (b.take m)).map iV) (v:=iV (yn:Int)) (cs':=((kR (upTo' j) (a.take m) (b.take m)).set xn (yn:Int)).map iV) (by rw[show 0+xn*1=xn by omega,ul]) (by rw[aS,hrl];omega) ?_;refine go ?_;refine jG (b:=bp) (o:=0+yn*1) (cs:=((kR (upTo' j) (a.take m) (b.take m)).set xn (yn:Int)).map iV) (v:=iV (xn:Int)) (cs':=(kR (upTo' j) (a.take (m+1)) (b.take (m+1))).map iV) (by rw[hsn,show 0+yn*1=yn by omega,<- ul]) (by rw[aS,jD,hrl];omega) ?_;refine go ?_;exact aY (m+1) p0 p0
  obtain rfl:m=a.length:=p0
  rw[eH,zV (by omega:b.length<=a.length)];have hrl:(kR (upTo' j) a b).length=j:=by rw[ME,qi]
  refine gZ (Av (b:=bp) (f:=0) (c:=j) (xs:=kR (upTo' j) a b) (hc:=p0)) ?_;rw[hrl];refine go ?_;intro ar5;have hzl:zs.length<=4096*4096+4096:=by
   rw[hzs,dL,aS];have h7:((((lists.drop (i+1)).take (k - (i+1))).filter (qm a))).length<=lists.length:=mh (FB ..) (by rw[gq,lm];omega);omega
  refine l7 (az ai) (v:=v5) (xs:=zs) (kR (upTo' j) a b) (.slice (some ⟨bp,0,some 0⟩) j j) (cs:=[.slice (some ⟨bp,0,some 0⟩) j j]) p0 (next:=λv6=>?_);refine go ?_;refine aY (k+1,.slice v6 (zs.length+1) (zs.length+1),zs++[kR (upTo' j) a b]) (by show lists.length - (k+1)<lists.length - k;omega) ⟨by show i+1<=k+1;omega,by show k+1<=_;omega,?_⟩;show zs++[kR (upTo' j) a b]=ys++_;rw[hnx,ho,if_pos rfl,dQ,<- fq,<- hzs];rfl
