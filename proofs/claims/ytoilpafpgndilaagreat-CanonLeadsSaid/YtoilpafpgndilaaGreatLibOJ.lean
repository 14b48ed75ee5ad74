/- Part. -/
import Derived.Test.YtoilpafpgndilaaGreatLibNJ
set_option linter.all false
set_option maxRecDepth 10000
set_option maxHeartbeats 4000000
namespace Go.Proofs.YtoilpafpgndilaaGreat
open Tryz (prog)
open Go.Ideal Kd Canon
noncomputable def UT:=qI prog 231
def acP:mO prog 231=some UT:=s8
def acQ(c:Nat):(Builtin.zeroCells (Value.slice none 0 0).cells c)=⟨List.replicate c (.slice none 0 0)⟩:=by
 apply Array.ext';unfold Builtin.zeroCells;refine List.ext_getElem (by simp[Value.cells]) λk h1 h2=>?_;simp[Value.cells,Nat.mod_one]
def apw:RU prog 231 (.slice none 0 0) 29 24 where
 room b off n c i vb vo cs v w h1 h2 h3 h4 h5 h6 h7 h8 h9 h10 h11 tA tB kA kB h12 h13 h14 h15 h16:=aoY b off n c i vb vo cs v w h1 h2 h3 h4 h5 h6 h7 h8 h9 h10 h11 tA tB kA kB h12 h13 h14 h15 h16
 grow b off n c i vb vo cs v w h1 h2 h3 h4 h5 h6 h7 h8 h9:=by
  intro cs0;obtain⟨e,w',fr,⟨q1,q2⟩,rest⟩:=aoZ b off n c i vb vo cs v w h1 h2 h3 h4 h5 h6 h7 h8 h9 cs0;refine⟨e,w',fr,⟨grownCap w (n+1) c 29,grownCap_ge w _ _ _,q1,?_⟩,rest⟩;rw[q2,acQ,acQ];have e:∀A B:ae ah,((cs.take i).toArray++(⟨A⟩:Array ah)++(⟨B⟩:Array ah))=⟨cs.take i++A++B⟩:=λA B=>by apply Array.ext';simp
  rw[e]
variable{n:Nat}{v:ah}{xs:ae (ae Int)}
def OQ{B:ae Nat}{w0:Wd}{kl kl':ae OA}{F:ae aI}{K:KO}{ds:ae Tmp}{rest:ae bN}{l:qr}{D:ae Deferred}{pm:ak FrameMode}{ro:ak Nat}{d:Nat}{g:ak (Tmp×Bool)}{x i:ay}(k:Nat)(z:ae Int){kk:IntKind}{d2:Nat}{g2:ak (Tmp×Bool)}(hz:xs[k]? =some z)
 (next:∀b o (y:ah),R (λh=>aM prog ds rest (act n ((d2,y)::(d,.pointer (some ⟨b,o,none⟩))::l) D pm ro) h K) B w0 kl (aj ai y z::F))
 (hn:Nat.blt d n=true:=by rfl) (hg:bO l g=true:=by rfl) (hn2:Nat.blt d2 n=true:=by rfl) (hg2:∀u,bO ((d,u)::l) g2=true:=by intro _;rfl) (hx:ev l x=v:=by conv=>lhs;whnf) (hi:ev l i=.int kk (k:Int):=by rfl)
 (hk:aB (ap (az ai) v xs) kl kl':=by exact dU):
 R (λh=>aM prog ds (⟨⟨some d,g,.jw 1 x i⟩,[]⟩::⟨⟨some d2,g2,.fE (.tmp d)⟩,[]⟩::rest) (act n l D pm ro) h K) B w0 kl F:=by
 intro w s;have s1:=s.fI hk;obtain⟨S,⟨S1,S2,p,p2,e⟩,h2,h3⟩:=s1.own;have hlt:=(aV.1 hz).1;rcases p with⟨h,_⟩|⟨b,o,f,cells,e1,hf,e2,hb,hcl,hel⟩
 .rw[h]at hz;cases hz
 .subst e1;obtain⟨y,u1,u2⟩:=hel k z hz;have hc:cells[o+(k:Int).toNat*1]? =some y:=by
   rw[fM];exact u1 0 y rfl
  exact dr
def BI(lt:Nat->Bool)(i j:Nat):Nat:=if h:i<j then(if lt ((i+j)/2)then BI lt ((i+j)/2+1) j else BI lt i ((i+j)/2))else i
termination_by j - i
decreasing_by all_goals omega
def apA{lt:Nat->Bool}:∀(m i j:Nat),j - i<=m->i<=j->BI lt i j<=j:=by
 intro m;induction m with
 |zero=>intro i j h h2;rw[BI,dif_neg s6];omega
 |succ m ih=>
  intro i j h h2;rw[BI];split
  .split
   .exact ih _ _ s6 s6
   .exact oH (ih _ _ s6 s6) s6
  .omega
def OT(xs:ae (ae Int))(p:ae Int)(k:Nat):Bool:=match xs[k]? with
 |some q=>decide (dN dx q p<0)
 |none=>false
def EX(xs:ae (ae Int))(p:ae Int)(k:Nat):Bool:=match xs[k]? with
 |some q=>decide (dN dx q p=0)
 |none=>false
def tY(xs:ae (ae Int))(p:ae Int):Nat:=BI (OT xs p) 0 xs.length
variable{p:ae Int}
def UU:tY xs p<=xs.length:=apA _ _ _ (aZ _) (bM _)
def acR{va vb:ah}{xs ys:ae Int}(hal:xs.length<=1000000)(hbl:ys.length<=1000000):
 dZ prog 230 [va,vb] [aj ai va xs,aj ai vb ys] (iV (dN dx xs ys)):=by
 refine gB 230 λB w0=>?_;refine gC (Om (xs:=xs) (ys:=ys) hal hbl) λ_ _=>?_;exact eH
def apB{vp:ah}(hl:xs.length<=1000000)(hls:∀q∈xs,q.length<=1000000)(hpl:p.length<=1000000):
 aX prog (.func 229) [v,vp,.func (.func 230) #[] #[]] [] [ap (az ai) v xs] [aj ai vp p] (λ_:Unit=>.tuple ⟨[iV (tY xs p:Int),.bool (EX xs p (tY xs p))]⟩) (λ_=>[ap (az ai) v xs]) (λ_=>[]) (λ_=>True):=by
 refine gB 229 λB w0=>?_;refine Nk (E:=az ai) (v:=v) (xs:=xs) λav eav hnil=>?_;subst eav;refine gL (λy:Nat×Nat=>y.2 - y.1) (λy=>[(9,iV (y.1:Int)),(10,iV (y.2:Int))]) (λy=>y.1<=y.2/\y.2<=xs.length/\BI (OT xs p) y.1 y.2=tY xs p) (0,xs.length) ⟨bM _,aZ _,rfl⟩ ?_;rintro⟨a,b⟩ ⟨hab,hb,hbs⟩;dsimp only at hab hb hbs⊢;refine aO ?_ ?_<;>intro h1
 .have hsh:(a+b)>>>1=(a+b)/2:=Pq _ _;have IX:a<=(a+b)/2/\(a+b)/2<b:=by omega
  rw[BI,dif_pos s6]at hbs;generalize hm:(a+b)/2=m at IX hbs hsh;refine go ?_;rw[show(a:Int)+(b:Int)=((a+b:Nat):Int)by omega];refine(cZ rfl rfl (zz (k:=.u64) (m:=((a+b:Nat):Int)) (by kernel_rfl:prog.underlying 3=some (.int .i64)) s8 rfl (Y2 s6))).h ?_;refine(cZ rfl rfl (Y3 (a:=a+b) (b:=1) rfl rfl s6)).h ?_;rw[hsh];refine(cZ rfl rfl (zz (k:=.i64) (m:=(m:Int)) (by kernel_rfl:prog.underlying 180=some (.int .u64)) s8 rfl (wrapN s6))).h ?_;refine go ?_;have hq:xs[m]? =some (xs[m]'(s6)):=bG _;generalize hqe:xs[m]'(s6)=q at hq;have hlt:OT xs p m=decide (dN dx q p<0):=by unfold OT;rw[hq]
  refine OQ m q hq λ_ _ vq=>?_;refine gC (acR (xs:=q) (ys:=p) (hls q (aT hq)) hpl) λ_ _=>?_;refine aO ?_ ?_<;>intro h2
  .rw[hlt,eT h2,if_pos rfl]at hbs;refine go ?_;exact aU (m+1,b) (by show b - (m+1)<b - a;omega) ⟨by show m+1<=b;omega,hb,hbs⟩
  .rw[hlt,bY h2,if_neg s7]at hbs;refine go ?_;exact aU (a,m) (by show m - a<b - a;omega) ⟨by show a<=m;omega,by show m<=_;omega,hbs⟩
 have hba:a=b:=s6
 subst hba;have hbe:tY xs p=a:=by rw[<- hbs,BI,dif_neg (Pd a)]
 rw[hbe];refine go ?_;by_cases ha:((a:Int)<(xs.length:Int))
 .rw[eT ha];have hq:xs[a]? =some (xs[a]'(s6)):=bG _;generalize hqe:xs[a]'(s6)=q at hq;have he:EX xs p a=decide (dN dx q p=0):=by unfold EX;rw[hq]
  refine go ?_;refine OQ a q hq λ_ _ vq=>?_;refine gC (acR (xs:=q) (ys:=p) (hls q (aT hq)) hpl) λ_ _=>?_;refine go ?_;exact qQ () (hv:=by rw[he];rfl) (hp:=trivial)
 .rw[bY ha];have he:EX xs p a=false:=by unfold EX;rw[dW s6]
  refine go ?_;exact qQ () (hv:=by rw[he];rfl) (hp:=trivial)
variable{vb:Nat}
def apD{c:ak Nat}(hn:(xs.length+1)*24<=1073741824):
 aX prog (.func 231) [gv (az ai).n c xs.length,iV (xs.length:Int),.slice (some ⟨vb,0,some 0⟩) 1 1] [] [ap (az ai) (gv (az ai).n c xs.length) xs,pt vb (.cells [v])] [aj ai v p]
  (λc:Nat=>.slice (some ⟨c,0,some (az ai).n⟩) (xs.length+1) (xs.length+1)) (λc=>[ap (az ai) (.slice (some ⟨c,0,some (az ai).n⟩) (xs.length+1) (xs.length+1)) (xs++[p])]) (λ_=>[]) (λ_=>True):=by
 refine mq UT acP λB w0=>?_;cases c with
 |none=>
  by_cases h0:0<xs.length
  .exact ajA (E:=az ai) (xs:=xs) h0 (hk:=CA)
  have hx:xs=[]:=j6.1 s6;subst hx;dsimp only[gv,List.length_nil];refine go ?_;refine(cZ (v:=.slice none 0 0) rfl rfl (λh=>rfl)).h ?_;refine go ?_;refine RY (az ai) (v:=.slice none 0 0) (xs:=[]) p v ⟨td,td,td⟩ (hk:=CA) (next:=λc2=>?_);exact pA
 |some c=>
  dsimp only[gv];refine go ?_;refine(cZ rfl rfl (Gu (b:=c) (o:=0) (f:=1) (m:=xs.length) (c:=xs.length) (lo:=xs.length) (hi:=xs.length) rfl (.inr rfl) Nat.one_pos (.inr ⟨_,rfl,rfl⟩) (.inl ⟨rfl,rfl⟩) (aZ _) (aZ _))).h ?_;refine aO ?_ ?_<;>intro h2
  rotate_left
  .exact absurd rfl h2
  refine go ?_;refine RY (az ai) (v:=.slice (some ⟨c,0,some (az ai).n⟩) xs.length xs.length) (xs:=xs) p v ⟨s6,s6,s6⟩ (next:=λc2=>?_);exact pA
def apE:∃fn body,prog.funcs[231]? =some fn/\fn.body=some body/\fn.name≠ "runtime.NumGoroutine" :=by
 obtain⟨fn,h1,h2⟩:=TG.fn 231 UT acP;have h3:prog.funcs[231]? =some fn:=h1;have h4:(fn.name== "runtime.NumGoroutine")=false:=by
  have e:(prog.funcs[231]?).map (λf=>f.name== "runtime.NumGoroutine")=some false:=s8
  exact nw
 have h5:fn.body.isSome=true:=by
  have e:(prog.funcs[231]?).map (λf=>f.body.isSome)=some true:=s8
  exact nw
 exact pb
variable{i:Nat}
def apF{c:ak Nat}(hi:i<=xs.length)(hn:(xs.length+1)*24<=1073741824):
 aX prog (.func 231) [gv (az ai).n c xs.length,iV (i:Int),.slice (some ⟨vb,0,some 0⟩) 1 1] [] [ap (az ai) (gv (az ai).n c xs.length) xs,pt vb (.cells [v])] [aj ai v p]
  (λc:Nat=>.slice (some ⟨c,0,some (az ai).n⟩) (xs.length+1) (xs.length+1)) (λc=>[ap (az ai) (.slice (some ⟨c,0,some (az ai).n⟩) (xs.length+1) (xs.length+1)) (kZ xs i p)]) (λ_=>[]) (λ_=>True):=by
 by_cases hie:i=xs.length
 .subst hie;have e:kZ xs xs.length p=xs++[p]:=by unfold kZ;rw[fu,Fp]
  rw[e];exact apD hn
 cases c with
 |none=>
  intro B w s;obtain⟨S,⟨S1,S2,q1,q2,ee⟩,h2,h3⟩:=s.own;rcases q1 with⟨h,_⟩|⟨b,o,fl,cells,e1,_⟩
  .rw[h]at hi hie;exact absurd (Nat.le_antisymm hi (bM _)) hie
  .cases e1
 |some c=>
  obtain⟨fn,body,hf,hb,hnm⟩:=apE;exact ajw (E:=az ai) rfl (.sl0 0 0) rfl apw hf hb hnm (ad:=some ⟨c,0,some (az ai).n⟩) (xs:=xs) (a:=p) (y:=v) (x:=v) rfl s6 s6
def rz(l:ae (ae Int))(p:ae Int):ae (ae Int):=if EX l p (tY l p)=true then l else kZ l (tY l p) p
def o9(g:bQ):ae (ae Int):=(uU g).foldl rz []
variable{l:ae (ae Int)}
def apG:(rz l p).length<=l.length+1:=by
 unfold rz;split
 .omega
 .rw[Ez UU];exact aZ _
variable{q:ae Int}
def apH(h:q∈rz l p):q∈l\/q=p:=by
 unfold rz at h;split at h
 .exact .inl h
 .unfold kZ at h;rcases fq.1 h with h|h
  .exact .inl (xK h)
  .rcases bH.1 h with h|h
   .exact .inr h
   .exact .inl (E9 h)
def acS(xs l:ae (ae Int)):(xs.foldl rz l).length<=l.length+xs.length:=by
 induction xs generalizing l with
 |nil=>exact aZ _
 |cons x xs ih=>rw[nC];have:=ih (rz l x);have:=apG (l:=l) (p:=x);rw[nW];omega
def acT(xs l:ae (ae Int))(h:q∈xs.foldl rz l):q∈l\/q∈xs:=by
 induction xs generalizing l with
 |nil=>exact .inl h
 |cons x xs ih=>
  rw[nC]at h;rcases ih _ h with h|h
  .rcases apH h with h|h
   .exact .inl h
   .exact .inr (by rw[h];exact dD ..)
  .exact .inr (dB _ h)
def acU(g:bQ):(uU g).length<=12:=by
 unfold uU;refine oH (VU ..) ?_;unfold kR;split<;>simp[Dk]
variable{g:bQ}
def UW(h:q∈uU g):q.length=g.cells.length:=by
 unfold uU at h;obtain⟨f,_,hf⟩:=KM.1 h;unfold uT at hf;dsimp only at hf;split at hf
 .rename_i h2;injection hf with hf;rw[<- hf,h2];unfold gT;rw[aR,aR]
 .cases hf
def acV(h:q∈o9 g):q.length=g.cells.length:=by
 unfold o9 at h;rcases acT _ _ h with h|h
 .cases h
 .exact UW h
def acW(g:bQ):(o9 g).length<=12:=by
 unfold o9;have h1:=acS (uU g) [];have h2:=acU g;rw[wB]at h1;omega
abbrev EY(b n:Nat)(ys:ae (ae Int)):OA:=Js λc:ak Nat=>[pt b (.cells [gv (az ai).n c n]),ap (az ai) (gv (az ai).n c n) ys]
def apI{vh vc:ah}(hS:zK g)(hg:ic g):
 aX prog (.func 153) [.agg ⟨oz g vh vc⟩] [] [] (tQ g vh vc) (λc:ak Nat=>.tuple ⟨[gv (az ai).n c (o9 g).length,iV 0]⟩) (λc=>[ap (az ai) (gv (az ai).n c (o9 g).length) (o9 g)]) (λ_=>[]) (λ_=>True):=by
 have hcl:=hg.len;refine En _ (qo 153) λB w0=>?_;dsimp only[tQ];refine go ?_;intro b1 b2;refine gC (TE (g:=g) (vh:=vh) (vc:=vc) hS) λe he=>?_;have he0:e=0:=he.2 hg;subst he0;refine gC (apv (g:=g) (vh:=vh) (vc:=vc)) λbg _=>?_;try dsimp only[List.cons_append,List.nil_append]
 refine go ?_;refine lT (az ai) ?_;rw[show Value.slice none 0 0=gv (az ai).n none 0 from rfl];refine uC (λc:ak Nat=>[pt b2 (.cells [gv (az ai).n c 0]),ap (az ai) (gv (az ai).n c 0) ([]:ae (ae Int))]) none (h:=?_);refine JF (A:=EY b2 0 ([]:ae (ae Int))) (A':=EY b2 ([]:ae (ae Int)).length ([]:ae (ae Int))) rfl ?_;refine RO (Z:=Nat) (λ(ys:ae (ae Int)) (x:ah×ae Int)=>(rz ys x.2,Out.normal)) (λys=>[EY b2 ys.length ys]) (λvs ys=>ys=(vs.map (·.2)).foldl rz []) [] _ (λ_ _=>[]) rfl (λvs s x rest hs hX _=>by rw[hs,cB,wD];rfl)
  (aps (bg:=bg) (g:=g) (vh:=vh) (vc:=vc) hg)
  (by intro s x lo o B w0;dsimp only[List.cons_append,List.nil_append,List.zip_cons_cons,List.zip_nil_left,List.reverse_cons,List.reverse_nil];refine go ?_;have z0:Nat:=0;exact CK z0 rfl) ?_ ?_ (λ_ _=>trivial)
 .rintro di s ⟨vx,x⟩ rest z lo L B w0 hs hX;dsimp only[List.cons_append,List.nil_append]at hX⊢;have hxm:x∈uU g:=by rw[<- hX];simp
  have hxl:=UW hxm;have hsl:s.length<=12:=by
   have h1:=acS (di.map (·.2)) [];have h2:=congrArg List.length hX;have h3:=acU g;rw[aR,eF,nW]at h2;rw[hs];rw[aR]at h1;simp only[wB]at h1;omega
  have hse:∀q∈s,q.length<=1000000:=λq hq=>by
   rw[hs]at hq;rcases acT _ _ hq with h|h
   .cases h
   .have:q∈uU g:=by rw[<- hX,cB];exact jl _ h
    rw[UW this];omega
  refine zw (h:=λc=>?_);refine gF ai vx x λax cx ex=>?_;subst ex;generalize hv:gv (az ai).n c s.length=v;refine gC (apB (v:=v) (vp:=.slice ax x.length cx) (xs:=s) (p:=x) s6 hse s6) λ_ _=>?_;refine go ?_;cases hb:EX s x (tY s x)with
  |true=>
   have hi:rz s x=s:=by unfold rz;rw[if_pos hb]
   rw[hi];refine go ?_;subst hv;refine uC (λc:ak Nat=>[pt b2 (.cells [gv (az ai).n c s.length]),ap (az ai) (gv (az ai).n c s.length) s]) c (h:=?_);exact fg
  |false=>
   have hi:rz s x=kZ s (tY s x) x:=by unfold rz;rw[if_neg (by rw[hb];simp)]
   rw[hi];refine go ?_;intro b27;subst hv;refine gC (apF (c:=c) (xs:=s) (p:=x) (v:=.slice ax x.length cx) (vb:=b27) (i:=tY s x) UU s6) λc2 _=>?_;refine go ?_;have hlen:(kZ s (tY s x) x).length=s.length+1:=Ez UU;rw[show Value.slice (some ⟨c2,0,some (az ai).n⟩) (s.length+1) (s.length+1)=gv (az ai).n (some c2) (kZ s (tY s x) x).length by rw[hlen];rfl];refine uC (λc:ak Nat=>[pt b2 (.cells [gv (az ai).n c (kZ s (tY s x) x).length]),ap (az ai) (gv (az ai).n c (kZ s (tY s x) x).length) (kZ s (tY s x) x)]) (some c2) (h:=?_);exact sV () rfl trivial trivial
 .intro r xs hX;have hrun:∀(zs:ae (ah×ae Int)) (ys:ae (ae Int)),iO (λ(ys:ae (ae Int)) (x:ah×ae Int)=>(rz ys x.2,Out.normal)) ys zs=((zs.map (·.2)).foldl rz ys,.normal):=by
   intro zs;induction zs with
   |nil=>intro ys;rfl
   |cons z zs ih=>intro ys;rw[iO];simp only[ih];rfl
  have hX:xs.map (·.2)=uU g:=hX;rw[hrun,hX,show(uU g).foldl rz []=o9 g from rfl];dsimp only[List.cons_append,List.nil_append];refine zw (h:=λc=>?_);cases c with
  |none=>
   dsimp only[gv];refine go ?_;exact yB none (hv:=rfl) (hp:=trivial) (hk:=s9)
  |some c=>
   dsimp only[gv];refine go ?_;exact yB (some c) (hv:=rfl) (hp:=trivial) (hk:=s9)
noncomputable def acX:iG:=⟨147,[(.tmp 4),(.tmp 5)],(.seq (kO [kS 4 (.jm (.const vS)),kS 5 (.jm (.const (iV 0)))]) (.seq (.seq (kO [kM 18 0,kS 19 (.bin .lss 3 18 (.const (iV 0))),kM 20 19,kH 21 20 (.mv 0),kH 22 20 (.bin .gtr 3 21 (.const (iV 256))),kS 23 (.pick 20 kT 22)]) (.cond 23 (.seq (kO [kS 4 (.jm (.const vS)),kS 5 (.jm (.const (iV 140)))]) .ret) .skip)) (.seq (kO [kM 24 1,kS 25 (.pR 24),kS 26 (.xQ 58 1 24 [vS] 25 25),kS 6 (.new [vS] 277),kN (.store 1 6 26)]) (.seq (.seq (kO [kM 27 1,kS 28 (.pR 27),kS 29 (.mv (.const (iV 0)))]) (.block 0 (.loop (.seq (kO [kS 30 (.bin .lss 3 29 28)]) (.seq (.cond 30 .skip (.exit 0)) (.seq (.block 1 (.seq (kO [kM 31 29,kS 32 (.jw 1 27 29),kS 33 (.fE 32),kS 7 (.jm 31),kS 8 (.jm 33)]) (.seq (kO [kS 34 (.fE 6),kM 35 7,kM 36 0,kS 37 (.xQ 4 1 1 [(.bool false)] 36 36),kS 38 (.jw 1 34 35),kN (.store 1 38 37)]) (.seq (kO [kM 39 8,kS 40 (.pR 39),kS 41 (.mv (.const (iV 0)))]) (.block 2 (.loop (.seq (kO [kS 42 (.bin .lss 3 41 40)]) (.seq (.cond 42 .skip (.exit 2)) (.seq (.block 3 (.seq (kO [kS 43 (.jw 1 39 41),kS 44 (.fE 43),kS 10 (.jm 44)]) (.seq (.seq (kO [kM 45 10,kS 46 (.bin .lss 3 45 (.const (iV 0))),kM 47 46,kH 48 47 (.mv 10),kH 49 47 (.mv 0),kH 50 47 (.bin .geq 3 48 49),kS 51 (.pick 47 kT 50),kM 52 51,kH 53 52 (.fE 6),kH 54 52 (.mv 7),kH 55 52 (.jw 1 53 54),kH 56 52 (.fE 55),kH 57 52 (.mv 10),kH 58 52 (.jw 1 56 57),kH 59 52 (.fE 58),kS 60 (.pick 52 kT 59)]) (.cond 60 (.seq (kO [kS 4 (.jm (.const vS)),kS 5 (.jm (.const (iV 140)))]) .ret) .skip)) (kO [kS 61 (.fE 6),kM 62 7,kS 63 (.jw 1 61 62),kS 64 (.fE 63),kM 65 10,kS 66 (.jw 1 64 65),kN (.store 1 66 kT)])))) (kO [kS 67 (.bin .add 3 41 (.const (iV 1))),kM 41 67])))))))))) (kO [kS 68 (.bin .add 3 29 (.const (iV 1))),kM 29 68]))))))) (.seq (.seq (kO [kM 69 1,kS 70 (.pR 69),kS 71 (.mv (.const (iV 0)))]) (.block 4 (.loop (.seq (kO [kS 72 (.bin .lss 3 71 70)]) (.seq (.cond 72 .skip (.exit 4)) (.seq (.block 5 (.seq (kO [kM 73 71,kS 74 (.jw 1 69 71),kS 75 (.fE 74),kS 11 (.new [(iV 0)] 3),kN (.store 1 11 73),kS 12 (.jm 75)]) (.seq (kO [kS 76 (.fE 11),kS 77 (.bin .add 3 76 (.const (iV 1))),kS 13 (.jm 77)]) (.block 6 (.loop (.seq (.seq (kO [kM 78 13,kM 79 1,kS 80 (.pR 79),kS 81 (.bin .lss 3 78 80)]) (.cond 81 .skip (.exit 6))) (.seq (.block 7 (.seq (kO [kM 84 1,kM 85 13,kS 86 (.jw 1 84 85),kS 87 (.fE 86),kS 14 (.jm 87)]) (.seq (.seq (kO [kM 88 12,kS 89 (.pR 88),kS 90 (.bin .eql 3 89 (.const (iV 0))),kM 91 90,kH 92 91 (.mv 12),kH 93 91 (.pR 92),kH 94 91 (.mv 14),kH 95 91 (.pR 94),kH 96 91 (.bin .neq 3 93 95),kS 97 (.pick 91 kT 96),kM 98 97,kH 99 98 (.mv 14),kH 100 98 (.DJ (.func 232) [] [6,11]),kH 101 98 (kC 145 [99,100]),kS 102 (.pick 98 kT 101)]) (.cond 102 (.exit 7) .skip)) (.seq (kO [kM 103 0,kS 104 (.xQ 3 1 8 [(iV 0)] 103 103),kS 15 (.jm 104)]) (.seq (.seq (kO [kM 105 15,kS 106 (.pR 105),kS 107 (.mv (.const (iV 0)))]) (.block 8 (.loop (.seq (kO [kS 108 (.bin .lss 3 107 106)]) (.seq (.cond 108 .skip (.exit 8)) (.seq (.block 9 (.seq (kO [kM 109 107,kS 16 (.jm 109)]) (kO [kM 110 15,kM 111 16,kM 112 16,kS 113 (.jw 1 110 111),kN (.store 1 113 112)]))) (kO [kS 114 (.bin .add 3 107 (.const (iV 1))),kM 107 114]))))))) (.seq (.seq (kO [kM 115 12,kS 116 (.pR 115),kS 117 (.mv (.const (iV 0)))]) (.block 10 (.loop (.seq (kO [kS 118 (.bin .lss 3 117 116)]) (.seq (.cond 118 .skip (.exit 10)) (.seq (.block 11 (.seq (kO [kM 119 117,kS 17 (.jm 119)]) (kO [kM 120 15,kM 121 12,kM 122 17,kS 123 (.jw 1 121 122),kS 124 (.fE 123),kM 125 15,kM 126 14,kM 127 17,kS 128 (.jw 1 126 127),kS 129 (.fE 128),kM 130 14,kM 131 17,kS 132 (.jw 1 130 131),kS 133 (.fE 132),kM 134 12,kM 135 17,kS 136 (.jw 1 134 135),kS 137 (.fE 136),kS 138 (.jw 1 120 124),kN (.store 1 138 133),kS 139 (.jw 1 125 129),kN (.store 1 139 137)]))) (kO [kS 140 (.bin .add 3 117 (.const (iV 1))),kM 117 140]))))))) (kO [kM 141 4,kM 142 15,⟨⟨(some 143),none,(.Aj 29 1 [vS] [⟨0,⟨1,142⟩⟩])⟩,[]⟩,kS 144 (.append 29 1 24 141 143),kS 4 (.jm 144)]))))))) (kO [kM 82 13,kS 83 (.bin .add 3 82 (.const (iV 1))),kS 13 (.jm 83)])))))))) (kO [kS 145 (.bin .add 3 71 (.const (iV 1))),kM 71 145]))))))) (.seq (kO [kM 146 4,kS 4 (.jm 146),kS 5 (.jm (.const (iV 0)))]) .ret))))))⟩
def apK:mO prog 154=some acX:=s8
def mK(n:Nat)(L:ae Int):ae Bool:=(List.range n).map λc:Nat=>decide ((c:Int)∈L)
def Kv(n:Nat)(L:ae Int):(mK n L).length=n:=by unfold mK;rw[aR,nG]
variable{c:Nat}{L:ae Int}
def Kw(h:c<n):(mK n L)[c]? =some (decide ((c:Int)∈L)):=by
 unfold mK;rw[bU,oI h];rfl
def apL(h:c<n):(mK n L).set c true=mK n (L++[(c:Int)]):=by
 refine iH λk=>?_;rw[nY,Kv];by_cases hk:k<n
 .rw[Kw hk];by_cases e:c=k
  .subst e;rw[if_pos rfl,if_pos hk,Kw hk];congr 1;exact(eT (nD _ (bA.2 rfl))).symm
  .rw[if_neg e,Kw hk];congr 1;refine rF.2 ?_;rw[fq,bA];exact⟨.inl,λh=>h.elim id λh=>absurd (Int.ofNat.inj h).symm e⟩
 .have e1:(mK n L)[k]? =none:=dW (by rw[Kv];omega);have e2:(mK n (L++[(c:Int)]))[k]? =none:=dW (by rw[Kv];omega);rw[e1,e2,if_neg s6]
def apM(n:Nat):zeros [.bool false] n=(mK n []).map .bool:=by
 have:mK n []=List.replicate n false:=by
  unfold mK;rw[List.eq_replicate_iff];exact⟨by rw[aR,nG],λb hb=>by obtain⟨c,_,rfl⟩:=bS.1 hb;exact bY s7⟩
 rw[this];have key:∀n:Nat,zeros [.bool false] n=(List.replicate n false).map .bool:=by
  intro n;exact qt
 exact key n
variable{b:Nat}
def Yg{xs:ae Bool}(h:xs.length=n):oK (pt b (.cells (xs.map .bool))) [aj sP (.slice (some ⟨b,0,some 0⟩) n n) xs]:=by
 subst h;intro w w' S ⟨h1,h2⟩ hle hh hz g hg;rw[bA.1 hg];refine .inr ⟨b,0,0,_,_,⟨rfl,aZ _,.inl rfl⟩,⟨hz b tn,.inl tW⟩,λk x hk=>⟨(),λj u hj=>?_,λf hf=>by cases hf⟩⟩;match j,hj with
 |0,hj=>
  have hj:some (Value.bool x)=some u:=hj;rw[show 0+k*sP.n+0=k by show 0+k*1+0=k;omega,bU,hk];exact hj
 |j+1,hj=>cases hj
def Hf(vs:ae ah)(rows:ae (ae Bool)):aI:=⟨λw=>∀(k:Nat) v r,vs[k]? =some v->rows[k]? =some r->(aj sP v r).p w,λa h k v r h1 h2=>(aj sP v r).mono a (h k v r h1 h2)⟩
variable{rows:ae (ae Bool)}
def apO{m:Nat}{vs:ae ah}{w:Wd}(h1:(bW b 0 vs).p w)(h2:(Hf vs rows).p w)(hv:vs.length=m)(hr:rows.length=m):(aj (az sP) (.slice (some ⟨b,0,some 0⟩) m m) rows).p w:=by
 obtain⟨cells,q1,q2⟩:=h1;subst hr;refine .inr ⟨b,0,0,_,cells,⟨rfl,aZ _,.inl rfl⟩,q1,λk r hk=>?_⟩;have hlt:=(aV.1 hk).1;have hv2:vs[k]? =some (vs[k]'(s6)):=bG _;refine⟨vs[k]'(s6),λj u hj=>?_,λf hf=>by rw[bA.1 hf];exact h2 k _ r hv2 hk⟩;match j,hj with
 |0,hj=>
  have hj:some (vs[k]'(s6))=some u:=hj;have:=q2 k _ hv2;rw[show 0+k*(az sP).n+0=0+k by show 0+k*1+0=0+k;omega,this];exact hj
 |j+1,hj=>cases hj
def apP{b1 b2 m:Nat}{vs:ah}{r:ae Bool}{x:Bool}(hr:rows[i]? =some r)(hx:r[c]? =some x):
 NV prog (.func 232) [] [ptr' b1,ptr' b2] (iV (c:Int)) [bW b1 0 [vs],bW b2 0 [iV (i:Int)],aj (az sP) vs rows] x:=by
 have hi:=(aV.1 hr).1;have hc:=(aV.1 hx).1;refine gB 232 λB w0=>?_;refine gX (az sP) (xs:=rows) (k:=i) λ_ _ r2 (vr:ah) hr2=>?_;rw[hr]at hr2;obtain rfl:=Option.some.inj hr2;refine go ?_;intro _ _ x2 hx2;rw[hx]at hx2;obtain rfl:=Option.some.inj hx2;exact gQ () trivial
def lY:ae Int->ae Int->ae Int->ae Int
 |p,x::a,y::b=>lY ((p.set x.toNat y).set y.toNat x) a b
 |p,_,_=>p
def OU:∀(a b p:ae Int),(lY p a b).length=p.length
 |[],_,p=>by rw[lY];intro x a y b h;cases h
 |x::a,[],p=>by rw[lY];intro x a y b _ h;cases h
 |x::a,y::b,p=>by rw[lY,OU a b,ku,ku]
def acY:∀(a b p:ae Int) (x y:Int),a.length=b.length->lY p (a++[x]) (b++[y])=((lY p a b).set x.toNat y).set y.toNat x
 |[],[],p,x,y,_=>by simp[lY]
 |[],_::_,_,_,_,h=>by cases h
 |_::_,[],_,_,_,h=>by cases h
 |u::a,v::b,p,x,y,h=>by
  show lY p (u::(a++[x])) (v::(b++[y]))=_;rw[lY,acY a b _ x y tf];rfl
def sj(a b:ae Int):Bool:=!(decide (a.length=0))&&decide (a.length=b.length)&&!(b.any λc=>decide (c∈a))
def BJ(n:Nat)(lists:ae (ae Int))(i:Nat):ae (ae Int):=match lists[i]? with
 |some a=>((lists.drop (i+1)).filter (sj a)).map (lY (upTo' n) a)
 |none=>[]
def nu(n:Nat)(lists:ae (ae Int)):ae (ae Int):=(List.range lists.length).flatMap (BJ n lists)
variable{lists:ae (ae Int)}
def apQ:(BJ n lists i).length<=lists.length:=by
 unfold BJ;split
 .rw[aR];refine oH (HZ ..) ?_;rw[lu];omega
 .exact bM _
def UX{n:Nat}{lists:ae (ae Int)}:∀i,((List.range i).flatMap (BJ n lists)).length<=i*lists.length
 |0=>bM _
 |i+1=>by
  rw[Ag,KQ,eF,rD,Ad];have h1:=UX (n:=n) (lists:=lists) i;have h2:(List.flatMap (BJ n lists) [i]).length<=lists.length:=by
   rw[List.flatMap_singleton];exact apQ
  omega
def UY(hn:n<=256)(hm:lists.length<=4096)(hv:∀l∈lists,iY n l/\l.Nodup)(hb:∀l∈lists,l.length<=1000000):
 aX prog (.func 154) [iV (n:Int),v] [] [] [aj (az ai) v lists] (λw:ah=>.tuple ⟨[w,iV 0]⟩) (λw=>[ap (az ai) w (nu n lists)]) (λ_=>[]) (λ_=>True):=by
 refine mq acX apK λB w0=>?_;refine gF (az ai) v lists λal cl el=>?_;subst el;refine aO ?_ ?_<;>intro h1
 .exfalso;omega
 refine go ?_;refine sW lists.length ⟨s6,s6,s6⟩ λbs=>?_;have hz:zeros [Value.slice none 0 0] lists.length=List.replicate lists.length (.slice none 0 0):=by
  induction lists.length with
  |zero=>rfl
  |succ n ih=>rw[xO,<- ih];rfl
 rw[hz];refine go ?_;intro b6;refine go ?_;refine eD (Hf [] ((lists.take 0).map (mK n))) (λw _ k v r h _=>by cases h) ?_;refine dV (λy:Nat×ae ah=>lists.length - y.1) (λy=>[(29,iV (y.1:Int))]) (λy=>[pt bs (.cells (y.2++List.replicate (lists.length - y.1) (.slice none 0 0)))]) (λy=>[Hf y.2 ((lists.take y.1).map (mK n))]) (λy=>y.1<=lists.length/\y.2.length=y.1) (0,[]) ⟨bM _,rfl⟩ (hk:=s9) (body:=?_);rintro⟨i,vs⟩ ⟨hi,hvl⟩;dsimp only at hi hvl⊢;refine aO ?_ ?_<;>intro h2
 .refine gX (az ai) (xs:=lists) λ_ _ L (vL:ah) hL=>?_;have Di:=aT hL;obtain⟨hLr,hLn⟩:=hv L Di;have hLb:=hb L Di;refine gF ai vL L λaL cL eL=>?_;subst eL;refine go ?_;refine sW n ⟨s6,s6,s6⟩ λbr=>?_;rw[apM];refine go ?_;have hset:(vs++List.replicate (lists.length - i) (Value.slice none 0 0)).set (0+i*1) (.slice (some ⟨br,0,some 0⟩) n n)=(vs++[.slice (some ⟨br,0,some 0⟩) n n])++List.replicate (lists.length - (i+1)) (.slice none 0 0):=by
   rw[Af _ _ s6,show 0+i*1 - vs.length=0 by omega,show lists.length - i=(lists.length - (i+1))+1 by omega,xO,List.append_assoc];rfl
  refine jN (b:=bs) (o:=0+i*1) (cs:=vs++List.replicate (lists.length - i) (.slice none 0 0)) (v:=.slice (some ⟨br,0,some 0⟩) n n) (cs':=(vs++[.slice (some ⟨br,0,some 0⟩) n n])++List.replicate (lists.length - (i+1)) (.slice none 0 0)) hset (by rw[eF,wC];omega) ?_;have hget:((vs++[.slice (some ⟨br,0,some 0⟩) n n])++List.replicate (lists.length - (i+1)) (Value.slice none 0 0))[0+i*1]? =some (.slice (some ⟨br,0,some 0⟩) n n):=by
   rw[jL (by rw[eF,u7];omega),jP s6,show 0+i*1 - vs.length=0 by omega];rfl
  refine go ?_;generalize hcs:(vs++[.slice (some ⟨br,0,some 0⟩) n n])++List.replicate (lists.length - (i+1)) (Value.slice none 0 0)=CS at hget⊢;refine dV (λj:Nat=>L.length - j) (λj=>[(41,iV (j:Int))]) (λj=>[pt br (.cells ((mK n (L.take j)).map .bool))]) (λ_=>[]) (λj=>j<=L.length) 0 (bM _) (hk:=s9) (body:=?_);intro j hj;refine aO ?_ ?_<;>intro h3
  .refine go ?_;intro _ _ x hx;have mZ:=hLr x (aT hx);obtain⟨cn,rfl⟩:=gV mZ.1;have hcn:cn<n:=by omega
   have hnot:((cn:Int))∉L.take j:=λh=>by
    obtain⟨k,hk⟩:=iM h;rw[rE]at hk;split at hk
    .rename_i hkj;have:=(List.getElem?_inj s6 hLn).1 (hk.trans hx.symm);omega
    .cases hk
   refine go ?_;rw[bY (show¬((n:Int)<=(cn:Int))by omega)];refine go ?_;refine ol (b:=bs) (o:=0+i*1) (cs:=CS) (.slice (some ⟨br,0,some 0⟩) n n) hget ?_;refine go ?_;refine ol (b:=br) (o:=0+cn*1) (cs:=(mK n (L.take j)).map .bool) (.bool false) (by rw[show 0+cn*1=cn by omega,bU,Kw hcn,bY hnot];rfl) ?_;refine go ?_;refine ol (b:=bs) (o:=0+i*1) (cs:=CS) (.slice (some ⟨br,0,some 0⟩) n n) hget ?_;refine go ?_;refine jN (b:=br) (o:=0+cn*1) (cs:=(mK n (L.take j)).map .bool) (v:=.bool true) (cs':=(mK n (L.take (j+1))).map .bool) (by rw[show 0+cn*1=cn by omega,<- pQ,apL hcn,fF hx]) (by rw[aR,Kv];omega) ?_;exact eN
  obtain rfl:j=L.length:=s6
  rw[fu];refine gZ (Yg (Kv n L)) ?_;refine go ?_;subst hcs;refine eD (Hf (vs++[.slice (some ⟨br,0,some 0⟩) n n]) ((lists.take (i+1)).map (mK n))) (λw hw k v r hv hr=>?_) ?_
  .rw[fF hL,cB]at hr;have hll:((lists.take i).map (mK n)).length=i:=by rw[aR,fU];omega
   by_cases hk:k<i
   .rw[jL s6]at hv hr;exact hw (Hf vs ((lists.take i).map (mK n))) s7 k v r hv hr
   .rw[jP s6]at hv hr;have hk0:k=i:=by
     have:=(aV.1 hv).1;simp at this;omega
    subst hk0;rw[hvl,nX]at hv;rw[hll,nX]at hr;cases hv;cases hr;exact hw (aj sP (.slice (some ⟨br,0,some 0⟩) n n) (mK n L)) s7
  exact aU (i+1,vs++[.slice (some ⟨br,0,some 0⟩) n n]) Fo ⟨by show i+1<=_;omega,by show(vs++_).length=i+1;rw[eF,hvl];rfl⟩
 obtain rfl:i=lists.length:=s6
 rw[nX,fu,show List.replicate 0 (Value.slice none 0 0)=[]from rfl,gW];refine gP bs ?_;refine gP b6 ?_;refine eD (aj (az sP) (.slice (some ⟨bs,0,some 0⟩) lists.length lists.length) (lists.map (mK n))) (λw hw=>apO (hw (bW bs 0 vs) s7) (hw (Hf vs (lists.map (mK n))) s7) hvl (by rw[aR])) ?_;refine go ?_;refine lT (az ai) ?_;refine dV (λy:Nat×ah×ae (ae Int)=>lists.length - y.1) (λy=>[(71,iV (y.1:Int)),(4,y.2.1)]) (λy=>[ap (az ai) y.2.1 y.2.2]) (λ_=>[]) (λy=>y.1<=lists.length/\y.2.2=(List.range y.1).flatMap (BJ n lists)) (0,.slice none 0 0,[]) ⟨bM _,rfl⟩ (hk:=s9) (body:=?_);rintro⟨i,v4,ys⟩ ⟨hi,hys⟩;dsimp only at hi hys⊢;refine aO ?_ ?_<;>intro h3
 rotate_left
 .obtain rfl:i=lists.length:=by omega
  refine go ?_;exact gQ v4 trivial (hk:=by rw[hys];exact .cons .here .nil)
 refine gX (az ai) (xs:=lists) λ_ _ a (va:ah) ha=>?_;have ham:=aT ha;obtain⟨har,han⟩:=hv a ham;have hab:=hb a ham;refine gF ai va a λaa ca ea=>?_;subst ea;refine go ?_;intro b11;refine go ?_;refine gP b11 ?_;have hbase:=UX (n:=n) (lists:=lists) i;rw[<- hys]at hbase;have hmul:i*lists.length<=4096*4096:=Nat.mul_le_mul s6 hm;refine dV (λy:Nat×ah×ae (ae Int)=>lists.length - y.1) (λy=>[(13,iV (y.1:Int)),(4,y.2.1)]) (λy=>[ap (az ai) y.2.1 y.2.2]) (λ_=>[]) (λy=>i+1<=y.1/\y.1<=lists.length/\y.2.2=ys++(((lists.drop (i+1)).take (y.1 - (i+1))).filter (sj a)).map (lY (upTo' n) a)) (i+1,v4,ys) ⟨aZ _,by show i+1<=_;omega,by show ys=ys++_;rw[nX,List.take_zero];exact(gW _).symm⟩ (hk:=s9) (body:=?_);rintro⟨k,v5,zs⟩ ⟨hk1,hk2,hzs⟩;dsimp only at hk1 hk2 hzs⊢;refine aO ?_ ?_<;>intro h4
 rotate_left
 .obtain rfl:k=lists.length:=by omega
  refine go ?_;refine aU (i+1,v5,zs) Fo ⟨by show i+1<=_;omega,?_⟩;show zs=(List.range (i+1)).flatMap (BJ n lists);rw[Ag,KQ,<- hys,hzs,List.flatMap_singleton,xP tj];unfold BJ;rw[ha]
 refine gX (az ai) (xs:=lists) λ_ _ b (vb:ah) hbk=>?_;have FP:=aT hbk;obtain⟨hbr,hbn⟩:=hv b FP;have hbb:=hb b FP;refine gF ai vb b λab cb eb=>?_;subst eb;have hnx:((lists.drop (i+1)).take (k+1 - (i+1))).filter (sj a)=((lists.drop (i+1)).take (k - (i+1))).filter (sj a)++(if sj a b=true then[b]else[]):=by
  have e:(lists.drop (i+1))[k - (i+1)]? =some b:=by rw[jU,show i+1+(k - (i+1))=k by omega];exact hbk
  rw[show k+1 - (i+1)=(k - (i+1))+1 by omega,fF e,Fh];congr 1;rw[Dz];split<;>rfl
 have skip:sj a b=false->zs=ys++(((lists.drop (i+1)).take (k+1 - (i+1))).filter (sj a)).map (lY (upTo' n) a):=λh=>by
  rw[hnx,h,if_neg s7,gW];exact hzs
 refine go ?_;by_cases ha0:((a.length:Int)=0)
 .rw[eT ha0];have ho:sj a b=false:=by unfold sj;rw[eT (show a.length=0 by omega)];rfl
  exact dl
 rw[bY ha0];refine go ?_;by_cases hne:((a.length:Int)≠(b.length:Int))
 .rw[eT hne];have ho:sj a b=false:=by unfold sj;rw[bY (show¬a.length=b.length by omega),Bool.and_false];rfl
  exact dl
 rw[bY hne];have hlen:a.length=b.length:=s6
 refine gC (aaS (fn:=.func 232) (first:=[]) (cap:=[ptr' b6,ptr' b11]) (F1:=[bW b6 0 [.slice (some ⟨bs,0,some 0⟩) lists.length lists.length],bW b11 0 [iV (i:Int)],aj (az sP) (.slice (some ⟨bs,0,some 0⟩) lists.length lists.length) (lists.map (mK n))]) (p:=λc=>decide (c∈a)) (va:=.slice ab b.length cb) (xs:=b) s6 (λx hx=>by
  have mZ:=hbr x hx;obtain⟨cn,rfl⟩:=gV mZ.1;exact apP (m:=0) (r:=mK n a) (by rw[bU,ha];rfl) (Kw s6))) λ_ _=>?_
 refine go ?_;cases hany:b.any λc=>decide (c∈a)with
 |true=>
  have ho:sj a b=false:=by unfold sj;rw[hany,Bool.not_true,Bool.and_false]
  exact dl
 |false=>
  have ho:sj a b=true:=by unfold sj;rw[hany,bY (show¬a.length=0 by omega),eT hlen];rfl
  have atY:∀x∈b,x∉a:=λx hx h=>by
   have:=KW.1 hany x hx;exact this (eT h)
  refine go ?_;refine sW n ⟨s6,s6,s6⟩ λbp=>?_;rw[BB];refine go ?_;refine dV (λj:Nat=>n - j) (λj=>[(107,iV (j:Int))]) (λj=>[pt bp (.cells ((gM (upTo' j) n).map iV))]) (λ_=>[]) (λj=>j<=n) 0 (bM _) (hk:=s9) (body:=?_);intro j hj;have rq:=kK j;refine aO ?_ ?_<;>intro h5
  .refine go ?_;refine jN (b:=bp) (o:=0+j*1) (cs:=(gM (upTo' j) n).map iV) (v:=iV (j:Int)) (cs':=(gM (upTo' (j+1)) n).map iV) Hv GP ?_;exact eN
  obtain rfl:j=n:=s6
  rw[BA rq];refine go ?_;refine dV (λm:Nat=>a.length - m) (λm=>[(117,iV (m:Int))]) (λm=>[pt bp (.cells ((lY (upTo' j) (a.take m) (b.take m)).map iV))]) (λ_=>[]) (λm=>m<=a.length) 0 (bM _) (hk:=s9) (body:=?_);intro m hmm;refine aO ?_ ?_<;>intro h6
  .refine go ?_;intro _ _ x hx _ _ y hy _ _ y2 hy2 _ _ x2 hx2;rw[hy]at hy2;rw[hx]at hx2;obtain rfl:=Option.some.inj hy2;obtain rfl:=Option.some.inj hx2;have mZ:=har x (aT hx);have hyr:=hbr y (aT hy);obtain⟨xn,rfl⟩:=gV mZ.1;obtain⟨yn,rfl⟩:=gV hyr.1;have hrl:(lY (upTo' j) (a.take m) (b.take m)).length=j:=by rw[OU,rq]
   have hsn:lY (upTo' j) (a.take (m+1)) (b.take (m+1))=((lY (upTo' j) (a.take m) (b.take m)).set xn (yn:Int)).set yn (xn:Int):=by
    rw[fF hx,fF hy,acY _ _ _ _ _ (by rw[fU,fU];omega)];rfl
   refine go ?_;refine jN (b:=bp) (o:=0+xn*1) (cs:=(lY (upTo' j) (a.take m) (b.take m)).map iV) (v:=iV (yn:Int)) (cs':=((lY (upTo' j) (a.take m) (b.take m)).set xn (yn:Int)).map iV) (by rw[show 0+xn*1=xn by omega,pQ]) (by rw[aR,hrl];omega) ?_;refine go ?_;refine jN (b:=bp) (o:=0+yn*1) (cs:=((lY (upTo' j) (a.take m) (b.take m)).set xn (yn:Int)).map iV) (v:=iV (xn:Int)) (cs':=(lY (upTo' j) (a.take (m+1)) (b.take (m+1))).map iV) (by rw[hsn,show 0+yn*1=yn by omega,<- pQ]) (by rw[aR,ku,hrl];omega) ?_;refine go ?_;exact aU (m+1) s6 s6
  obtain rfl:m=a.length:=s6
  rw[fu,xP (by omega:b.length<=a.length)];have hrl:(lY (upTo' j) a b).length=j:=by rw[OU,rq]
  refine gZ (qP (b:=bp) (f:=0) (c:=j) (xs:=lY (upTo' j) a b) (hc:=s6)) ?_;rw[hrl];refine go ?_;intro atZ;have hzl:zs.length<=4096*4096+4096:=by
   rw[hzs,eF,aR];have h7:((((lists.drop (i+1)).take (k - (i+1))).filter (sj a))).length<=lists.length:=oH (HZ ..) (by rw[fU,lu];omega);omega
  refine kY (az ai) (v:=v5) (xs:=zs) (lY (upTo' j) a b) (.slice (some ⟨bp,0,some 0⟩) j j) (cs:=[.slice (some ⟨bp,0,some 0⟩) j j]) s6 (next:=λv6=>?_);refine go ?_;refine aU (k+1,.slice v6 (zs.length+1) (zs.length+1),zs++[lY (upTo' j) a b]) (by show lists.length - (k+1)<lists.length - k;omega) ⟨by show i+1<=k+1;omega,by show k+1<=_;omega,?_⟩;show zs++[lY (upTo' j) a b]=ys++_;rw[hnx,ho,if_pos rfl,cB,<- List.append_assoc,<- hzs];rfl
