/- Part. -/
import Derived.Test.YtgimfpcgbmpkhaaGreatLibNT
set_option linter.all false
set_option maxRecDepth 10000
set_option maxHeartbeats 4000000
namespace Go.Proofs.YtgimfpcgbmpkhaaGreat
open Tryz (prog)
open Go.Ideal Kd Canon
noncomputable def Wt:=qL prog 246
def aei:ng prog 246=some Wt:=s8
def aej(c:Nat):(Builtin.zeroCells (Value.slice none 0 0).cells c)=⟨List.replicate c (.slice none 0 0)⟩:=by
 apply Array.ext';unfold Builtin.zeroCells;refine List.ext_getElem (by simp[Value.cells]) λk h1 h2=>?_;simp[Value.cells,Nat.mod_one]
def asy:TB prog 246 (.slice none 0 0) 22 24 where
 room b off n c i vb vo cs v w h1 h2 h3 h4 h5 h6 h7 h8 h9 h10 h11 tA tB kA kB h12 h13 h14 h15 h16:=arT b off n c i vb vo cs v w h1 h2 h3 h4 h5 h6 h7 h8 h9 h10 h11 tA tB kA kB h12 h13 h14 h15 h16
 grow b off n c i vb vo cs v w h1 h2 h3 h4 h5 h6 h7 h8 h9:=by
  intro cs0;obtain⟨e,w',fr,⟨q1,q2⟩,rest⟩:=arU b off n c i vb vo cs v w h1 h2 h3 h4 h5 h6 h7 h8 h9 cs0;refine⟨e,w',fr,⟨grownCap w (n+1) c 22,grownCap_ge w _ _ _,q1,?_⟩,rest⟩;rw[q2,aej,aej];have e:∀A B:ae ah,((cs.take i).toArray++(⟨A⟩:Array ah)++(⟨B⟩:Array ah))=⟨cs.take i++A++B⟩:=λA B=>by apply Array.ext';simp
  rw[e]
variable{n:Nat}{v:ah}{xs:ae (ae Int)}
def Qw{B:ae Nat}{w0:Wd}{kl kl':ae OA}{F:ae aI}{K:KO}{ds:ae Tmp}{rest:ae bV}{l:qr}{D:ae Deferred}{pm:az FrameMode}{ro:az Nat}{d:Nat}{g:az (Tmp×Bool)}{x i:aB}(k:Nat)(z:ae Int){kk:IntKind}{d2:Nat}{g2:az (Tmp×Bool)}(hz:xs[k]? =some z)
 (next:∀b o (y:ah),R (λh=>aO prog ds rest (act n ((d2,y)::(d,.pointer (some ⟨b,o,none⟩))::l) D pm ro) h K) B w0 kl (ay aj y z::F))
 (hn:Nat.blt d n=true:=by rfl) (hg:bJ l g=true:=by rfl) (hn2:Nat.blt d2 n=true:=by rfl) (hg2:∀u,bJ ((d,u)::l) g2=true:=by intro _;rfl) (hx:ev l x=v:=by conv=>lhs;whnf) (hi:ev l i=.int kk (k:Int):=by rfl)
 (hk:aD (ap (aA aj) v xs) kl kl':=by exact dG):
 R (λh=>aO prog ds (⟨⟨some d,g,.jw 1 x i⟩,[]⟩::⟨⟨some d2,g2,.fG (.tmp d)⟩,[]⟩::rest) (act n l D pm ro) h K) B w0 kl F:=by
 intro w s;have s1:=s.fB hk;obtain⟨S,⟨S1,S2,p,p2,e⟩,h2,h3⟩:=s1.own;have hlt:=(bz.1 hz).1;rcases p with⟨h,_⟩|⟨b,o,f,cells,e1,hf,e2,hb,hcl,hel⟩
 .rw[h]at hz;cases hz
 .subst e1;obtain⟨y,u1,u2⟩:=hel k z hz;have hc:cells[o+(k:Int).toNat*1]? =some y:=by
   rw[fI];exact u1 0 y rfl
  exact eI
def BF(lt:Nat->Bool)(i j:Nat):Nat:=if h:i<j then(if lt ((i+j)/2)then BF lt ((i+j)/2+1) j else BF lt i ((i+j)/2))else i
termination_by j - i
decreasing_by all_goals omega
def asC{lt:Nat->Bool}:∀(m i j:Nat),j - i<=m->i<=j->BF lt i j<=j:=by
 intro m;induction m with
 |zero=>intro i j h h2;rw[BF,dif_neg s6];omega
 |succ m ih=>
  intro i j h h2;rw[BF];split
  .split
   .exact ih _ _ s6 s6
   .exact lZ (ih _ _ s6 s6) s6
  .omega
def Qx(xs:ae (ae Int))(p:ae Int)(k:Nat):Bool:=match xs[k]? with
 |some q=>decide (eD dB q p<0)
 |none=>false
def Fu(xs:ae (ae Int))(p:ae Int)(k:Nat):Bool:=match xs[k]? with
 |some q=>decide (eD dB q p=0)
 |none=>false
def uh(xs:ae (ae Int))(p:ae Int):Nat:=BF (Qx xs p) 0 xs.length
variable{p:ae Int}
def Wu:uh xs p<=xs.length:=asC _ _ _ (bG _) (bI _)
def aek{va vb:ah}{xs ys:ae Int}(hal:xs.length<=1000000)(hbl:ys.length<=1000000):
 dO prog 245 [va,vb] [ay aj va xs,ay aj vb ys] (iV (eD dB xs ys)):=by
 refine gB 245 λB w0=>?_;refine gC (Vz (xs:=xs) (ys:=ys) hal hbl) λ_ _=>?_;exact dH
def asD{vp:ah}(hl:xs.length<=1000000)(hls:∀q∈xs,q.length<=1000000)(hpl:p.length<=1000000):
 aY prog (.func 244) [v,vp,.func (.func 245) #[] #[]] [] [ap (aA aj) v xs] [ay aj vp p] (λ_:Unit=>.tuple ⟨[iV (uh xs p:Int),.bool (Fu xs p (uh xs p))]⟩) (λ_=>[ap (aA aj) v xs]) (λ_=>[]) (λ_=>True):=by
 refine gB 244 λB w0=>?_;refine OM (E:=aA aj) (v:=v) (xs:=xs) λav eav hnil=>?_;subst eav;refine gL (λy:Nat×Nat=>y.2 - y.1) (λy=>[(9,iV (y.1:Int)),(10,iV (y.2:Int))]) (λy=>y.1<=y.2/\y.2<=xs.length/\BF (Qx xs p) y.1 y.2=uh xs p) (0,xs.length) ⟨bI _,bG _,rfl⟩ ?_;rintro⟨a,b⟩ ⟨hab,hb,hbs⟩;dsimp only at hab hb hbs⊢;refine aK ?_ ?_<;>intro h1
 .have hsh:(a+b)>>>1=(a+b)/2:=Me _ _;have Eo:a<=(a+b)/2/\(a+b)/2<b:=by omega
  rw[BF,dif_pos s6]at hbs;generalize hm:(a+b)/2=m at Eo hbs hsh;refine go ?_;rw[show(a:Int)+(b:Int)=((a+b:Nat):Int)by omega];refine(dx rfl rfl (xA (k:=.u64) (m:=((a+b:Nat):Int)) (by kernel_rfl:prog.underlying 3=some (.int .i64)) s8 rfl (OC s6))).h ?_;refine(dx rfl rfl (Tv (a:=a+b) (b:=1) rfl rfl s6)).h ?_;rw[hsh];refine(dx rfl rfl (xA (k:=.i64) (m:=(m:Int)) (by kernel_rfl:prog.underlying 71=some (.int .u64)) s8 rfl (wrapN s6))).h ?_;refine go ?_;have hq:xs[m]? =some (xs[m]'(s6)):=bN _;generalize hqe:xs[m]'(s6)=q at hq;have hlt:Qx xs p m=decide (eD dB q p<0):=by unfold Qx;rw[hq]
  refine Qw m q hq λ_ _ vq=>?_;refine gC (aek (xs:=q) (ys:=p) (hls q (aV hq)) hpl) λ_ _=>?_;refine aK ?_ ?_<;>intro h2
  .rw[hlt,eB h2,if_pos rfl]at hbs;refine go ?_;exact aW (m+1,b) AS ⟨by show m+1<=b;omega,hb,hbs⟩
  .rw[hlt,dA h2,if_neg s7]at hbs;refine go ?_;exact aW (a,m) AT ⟨by show a<=m;omega,by show m<=_;omega,hbs⟩
 have hba:a=b:=s6
 subst hba;have hbe:uh xs p=a:=by rw[<- hbs,BF,dif_neg (QD a)]
 rw[hbe];refine go ?_;by_cases ha:((a:Int)<(xs.length:Int))
 .rw[eB ha];have hq:xs[a]? =some (xs[a]'(s6)):=bN _;generalize hqe:xs[a]'(s6)=q at hq;have he:Fu xs p a=decide (eD dB q p=0):=by unfold Fu;rw[hq]
  refine go ?_;refine Qw a q hq λ_ _ vq=>?_;refine gC (aek (xs:=q) (ys:=p) (hls q (aV hq)) hpl) λ_ _=>?_;refine go ?_;exact ou () (hv:=by rw[he];rfl) (hp:=trivial)
 .rw[dA ha];have he:Fu xs p a=false:=by unfold Fu;rw[fT s6]
  refine go ?_;exact ou () (hv:=by rw[he];rfl) (hp:=trivial)
variable{vb:Nat}
def asF{c:az Nat}(hn:(xs.length+1)*24<=1073741824):
 aY prog (.func 246) [gv (aA aj).n c xs.length,iV (xs.length:Int),.slice (some ⟨vb,0,some 0⟩) 1 1] [] [ap (aA aj) (gv (aA aj).n c xs.length) xs,pt vb (.cells [v])] [ay aj v p]
  (λc:Nat=>.slice (some ⟨c,0,some (aA aj).n⟩) (xs.length+1) (xs.length+1)) (λc=>[ap (aA aj) (.slice (some ⟨c,0,some (aA aj).n⟩) (xs.length+1) (xs.length+1)) (xs++[p])]) (λ_=>[]) (λ_=>True):=by
 refine l7 Wt aei λB w0=>?_;cases c with
 |none=>
  by_cases h0:0<xs.length
  .exact akJ (E:=aA aj) (xs:=xs) h0 (hk:=B9)
  have hx:xs=[]:=pU.1 s6;subst hx;dsimp only[gv,List.length_nil];refine go ?_;refine(dx (v:=.slice none 0 0) rfl rfl (λh=>rfl)).h ?_;refine go ?_;refine TE (aA aj) (v:=.slice none 0 0) (xs:=[]) p v ⟨tg,tg,tg⟩ (hk:=B9) (next:=λc2=>?_);exact pZ
 |some c=>
  dsimp only[gv];refine go ?_;refine(dx rfl rfl (GY (b:=c) (o:=0) (f:=1) (m:=xs.length) (c:=xs.length) (lo:=xs.length) (hi:=xs.length) rfl (.inr rfl) Nat.one_pos (.inr ⟨_,rfl,rfl⟩) (.inl ⟨rfl,rfl⟩) (bG _) (bG _))).h ?_;refine aK ?_ ?_<;>intro h2
  rotate_left
  .exact absurd rfl h2
  refine go ?_;refine TE (aA aj) (v:=.slice (some ⟨c,0,some (aA aj).n⟩) xs.length xs.length) (xs:=xs) p v ⟨s6,s6,s6⟩ (next:=λc2=>?_);exact pZ
def asG:∃fn body,prog.funcs[246]? =some fn/\fn.body=some body/\fn.name≠ "runtime.NumGoroutine" :=by
 obtain⟨fn,h1,h2⟩:=U4.fn 246 Wt aei;have h3:prog.funcs[246]? =some fn:=h1;have h4:(fn.name== "runtime.NumGoroutine")=false:=by
  have e:(prog.funcs[246]?).map (λf=>f.name== "runtime.NumGoroutine")=some false:=s8
  exact od
 have h5:fn.body.isSome=true:=by
  have e:(prog.funcs[246]?).map (λf=>f.body.isSome)=some true:=s8
  exact od
 exact px
variable{i:Nat}
def asH{c:az Nat}(hi:i<=xs.length)(hn:(xs.length+1)*24<=1073741824):
 aY prog (.func 246) [gv (aA aj).n c xs.length,iV (i:Int),.slice (some ⟨vb,0,some 0⟩) 1 1] [] [ap (aA aj) (gv (aA aj).n c xs.length) xs,pt vb (.cells [v])] [ay aj v p]
  (λc:Nat=>.slice (some ⟨c,0,some (aA aj).n⟩) (xs.length+1) (xs.length+1)) (λc=>[ap (aA aj) (.slice (some ⟨c,0,some (aA aj).n⟩) (xs.length+1) (xs.length+1)) (lI xs i p)]) (λ_=>[]) (λ_=>True):=by
 by_cases hie:i=xs.length
 .subst hie;have e:lI xs xs.length p=xs++[p]:=by unfold lI;rw[dK,DY]
  rw[e];exact asF hn
 cases c with
 |none=>
  intro B w s;obtain⟨S,⟨S1,S2,q1,q2,ee⟩,h2,h3⟩:=s.own;rcases q1 with⟨h,_⟩|⟨b,o,fl,cells,e1,_⟩
  .rw[h]at hi hie;exact absurd (Nat.le_antisymm hi (bI _)) hie
  .cases e1
 |some c=>
  obtain⟨fn,body,hf,hb,hnm⟩:=asG;exact akF (E:=aA aj) rfl (.sl0 0 0) rfl asy hf hb hnm (ad:=some ⟨c,0,some (aA aj).n⟩) (xs:=xs) (a:=p) (y:=v) (x:=v) rfl s6 s6
def rF(l:ae (ae Int))(p:ae Int):ae (ae Int):=if Fu l p (uh l p)=true then l else lI l (uh l p) p
def oW(g:bY):ae (ae Int):=(vF g).foldl rF []
variable{l:ae (ae Int)}
def asI:(rF l p).length<=l.length+1:=by
 unfold rF;split
 .omega
 .rw[EK Wu];exact bG _
variable{q:ae Int}
def asJ(h:q∈rF l p):q∈l\/q=p:=by
 unfold rF at h;split at h
 .exact .inl h
 .unfold lI at h;rcases fU.1 h with h|h
  .exact .inl (FL h)
  .rcases dm.1 h with h|h
   .exact .inr h
   .exact .inl (IZ h)
def ael(xs l:ae (ae Int)):(xs.foldl rF l).length<=l.length+xs.length:=by
 induction xs generalizing l with
 |nil=>exact bG _
 |cons x xs ih=>rw[vI];have:=ih (rF l x);have:=asI (l:=l) (p:=x);rw[rJ];omega
def aem(xs l:ae (ae Int))(h:q∈xs.foldl rF l):q∈l\/q∈xs:=by
 induction xs generalizing l with
 |nil=>exact .inl h
 |cons x xs ih=>
  rw[vI]at h;rcases ih _ h with h|h
  .rcases asJ h with h|h
   .exact .inl h
   .exact .inr (by rw[h];exact eX ..)
  .exact .inr (fP _ h)
def aen(g:bY):(vF g).length<=12:=by
 unfold vF;refine lZ (Mg ..) ?_;unfold lm;split<;>simp[Dy]
variable{g:bY}
def Wv(h:q∈vF g):q.length=g.cells.length:=by
 unfold vF at h;obtain⟨f,_,hf⟩:=IU.1 h;unfold vD at hf;dsimp only at hf;split at hf
 .rename_i h2;injection hf with hf;rw[<- hf,h2];unfold iq;rw[bi,bi]
 .cases hf
def aeo(h:q∈oW g):q.length=g.cells.length:=by
 unfold oW at h;rcases aem _ _ h with h|h
 .cases h
 .exact Wv h
def aep(g:bY):(oW g).length<=12:=by
 unfold oW;have h1:=ael (vF g) [];have h2:=aen g;rw[BP]at h1;omega
abbrev Fv(b n:Nat)(ys:ae (ae Int)):OA:=Ez λc:az Nat=>[pt b (.cells [gv (aA aj).n c n]),ap (aA aj) (gv (aA aj).n c n) ys]
def asK{vh vc:ah}(hS:zV g)(hg:ig g):
 aY prog (.func 208) [.agg ⟨oG g vh vc⟩] [] [] (tY g vh vc) (λc:az Nat=>.tuple ⟨[gv (aA aj).n c (oW g).length,iV 0]⟩) (λc=>[ap (aA aj) (gv (aA aj).n c (oW g).length) (oW g)]) (λ_=>[]) (λ_=>True):=by
 have hcl:=hg.len;refine zD _ (pY 208) λB w0=>?_;dsimp only[tY];refine go ?_;intro b1 b2;refine gC (UZ (g:=g) (vh:=vh) (vc:=vc) hS) λe he=>?_;have he0:e=0:=he.2 hg;subst he0;refine gC (asx (g:=g) (vh:=vh) (vc:=vc)) λbg _=>?_;try dsimp only[List.cons_append,List.nil_append]
 refine go ?_;refine kv (aA aj) ?_;rw[show Value.slice none 0 0=gv (aA aj).n none 0 from rfl];refine oz (λc:az Nat=>[pt b2 (.cells [gv (aA aj).n c 0]),ap (aA aj) (gv (aA aj).n c 0) ([]:ae (ae Int))]) none (h:=?_);refine Kh (A:=Fv b2 0 ([]:ae (ae Int))) (A':=Fv b2 ([]:ae (ae Int)).length ([]:ae (ae Int))) rfl ?_;refine Ki (Z:=Nat) (λ(ys:ae (ae Int)) (x:ah×ae Int)=>(rF ys x.2,Out.normal)) (λys=>[Fv b2 ys.length ys]) (λvs ys=>ys=(vs.map (·.2)).foldl rF []) [] _ (λ_ _=>[]) rfl (λvs s x rest hs hX _=>by rw[hs,bZ,vJ];rfl)
  (asu (bg:=bg) (g:=g) (vh:=vh) (vc:=vc) hg)
  (by intro s x lo o B w0;dsimp only[List.cons_append,List.nil_append,List.zip_cons_cons,List.zip_nil_left,List.reverse_cons,List.reverse_nil];refine go ?_;have z0:Nat:=0;exact zI z0 rfl) ?_ ?_ (λ_ _=>trivial)
 .rintro bS s ⟨vx,x⟩ rest z lo L B w0 hs hX;dsimp only[List.cons_append,List.nil_append]at hX⊢;have hxm:x∈vF g:=by rw[<- hX];simp
  have hxl:=Wv hxm;have hsl:s.length<=12:=by
   have h1:=ael (bS.map (·.2)) [];have h2:=congrArg List.length hX;have h3:=aen g;rw[bi,fu,rJ]at h2;rw[hs];rw[bi]at h1;simp only[BP]at h1;omega
  have hse:∀q∈s,q.length<=1000000:=λq hq=>by
   rw[hs]at hq;rcases aem _ _ hq with h|h
   .cases h
   .have:q∈vF g:=by rw[<- hX,bZ];exact ul _ h
    rw[Wv this];omega
  refine rW (h:=λc=>?_);refine gF aj vx x λax cx ex=>?_;subst ex;generalize hv:gv (aA aj).n c s.length=v;refine gC (asD (v:=v) (vp:=.slice ax x.length cx) (xs:=s) (p:=x) s6 hse s6) λ_ _=>?_;refine go ?_;cases hb:Fu s x (uh s x)with
  |true=>
   have hi:rF s x=s:=by unfold rF;rw[if_pos hb]
   rw[hi];refine go ?_;subst hv;refine oz (λc:az Nat=>[pt b2 (.cells [gv (aA aj).n c s.length]),ap (aA aj) (gv (aA aj).n c s.length) s]) c (h:=?_);exact dy
  |false=>
   have hi:rF s x=lI s (uh s x) x:=by unfold rF;rw[if_neg (by rw[hb];simp)]
   rw[hi];refine go ?_;intro Bq;subst hv;refine gC (asH (c:=c) (xs:=s) (p:=x) (v:=.slice ax x.length cx) (vb:=Bq) (i:=uh s x) Wu s6) λc2 _=>?_;refine go ?_;have hlen:(lI s (uh s x) x).length=s.length+1:=EK Wu;rw[show Value.slice (some ⟨c2,0,some (aA aj).n⟩) (s.length+1) (s.length+1)=gv (aA aj).n (some c2) (lI s (uh s x) x).length by rw[hlen];rfl];refine oz (λc:az Nat=>[pt b2 (.cells [gv (aA aj).n c (lI s (uh s x) x).length]),ap (aA aj) (gv (aA aj).n c (lI s (uh s x) x).length) (lI s (uh s x) x)]) (some c2) (h:=?_);exact pE () rfl trivial trivial
 .intro r xs hX;have hrun:∀(zs:ae (ah×ae Int)) (ys:ae (ae Int)),gM (λ(ys:ae (ae Int)) (x:ah×ae Int)=>(rF ys x.2,Out.normal)) ys zs=((zs.map (·.2)).foldl rF ys,.normal):=by
   intro zs;induction zs with
   |nil=>intro ys;rfl
   |cons z zs ih=>intro ys;rw[gM];simp only[ih];rfl
  have hX:xs.map (·.2)=vF g:=hX;rw[hrun,hX,show(vF g).foldl rF []=oW g from rfl];dsimp only[List.cons_append,List.nil_append];refine rW (h:=λc=>?_);cases c with
  |none=>
   dsimp only[gv];refine go ?_;exact uO none (hv:=rfl) (hp:=trivial) (hk:=tc)
  |some c=>
   dsimp only[gv];refine go ?_;exact uO (some c) (hv:=rfl) (hp:=trivial) (hk:=tc)
noncomputable def aeq:iJ:=⟨147,[(.tmp 4),(.tmp 5)],(.seq (kO [kS 4 (.jC (.const vS)),kS 5 (.jC (.const (iV 0)))]) (.seq (.seq (kO [kM 18 0,kS 19 (.bin .lss 3 18 (.const (iV 0))),kM 20 19,kH 21 20 (.mv 0),kH 22 20 (.bin .gtr 3 21 (.const (iV 256))),kS 23 (.pick 20 kT 22)]) (.cond 23 (.seq (kO [kS 4 (.jC (.const vS)),kS 5 (.jC (.const (iV 140)))]) .ret) .skip)) (.seq (kO [kM 24 1,kS 25 (.pV 24),kS 26 (.xS 189 1 24 [vS] 25 25),kS 6 (.new [vS] 291),kN (.store 1 6 26)]) (.seq (.seq (kO [kM 27 1,kS 28 (.pV 27),kS 29 (.mv (.const (iV 0)))]) (.block 0 (.loop (.seq (kO [kS 30 (.bin .lss 3 29 28)]) (.seq (.cond 30 .skip (.exit 0)) (.seq (.block 1 (.seq (kO [kM 31 29,kS 32 (.jw 1 27 29),kS 33 (.fG 32),kS 7 (.jC 31),kS 8 (.jC 33)]) (.seq (kO [kS 34 (.fG 6),kM 35 7,kM 36 0,kS 37 (.xS 4 1 1 [(.bool false)] 36 36),kS 38 (.jw 1 34 35),kN (.store 1 38 37)]) (.seq (kO [kM 39 8,kS 40 (.pV 39),kS 41 (.mv (.const (iV 0)))]) (.block 2 (.loop (.seq (kO [kS 42 (.bin .lss 3 41 40)]) (.seq (.cond 42 .skip (.exit 2)) (.seq (.block 3 (.seq (kO [kS 43 (.jw 1 39 41),kS 44 (.fG 43),kS 10 (.jC 44)]) (.seq (.seq (kO [kM 45 10,kS 46 (.bin .lss 3 45 (.const (iV 0))),kM 47 46,kH 48 47 (.mv 10),kH 49 47 (.mv 0),kH 50 47 (.bin .geq 3 48 49),kS 51 (.pick 47 kT 50),kM 52 51,kH 53 52 (.fG 6),kH 54 52 (.mv 7),kH 55 52 (.jw 1 53 54),kH 56 52 (.fG 55),kH 57 52 (.mv 10),kH 58 52 (.jw 1 56 57),kH 59 52 (.fG 58),kS 60 (.pick 52 kT 59)]) (.cond 60 (.seq (kO [kS 4 (.jC (.const vS)),kS 5 (.jC (.const (iV 140)))]) .ret) .skip)) (kO [kS 61 (.fG 6),kM 62 7,kS 63 (.jw 1 61 62),kS 64 (.fG 63),kM 65 10,kS 66 (.jw 1 64 65),kN (.store 1 66 kT)])))) (kO [kS 67 (.bin .add 3 41 (.const (iV 1))),kM 41 67])))))))))) (kO [kS 68 (.bin .add 3 29 (.const (iV 1))),kM 29 68]))))))) (.seq (.seq (kO [kM 69 1,kS 70 (.pV 69),kS 71 (.mv (.const (iV 0)))]) (.block 4 (.loop (.seq (kO [kS 72 (.bin .lss 3 71 70)]) (.seq (.cond 72 .skip (.exit 4)) (.seq (.block 5 (.seq (kO [kM 73 71,kS 74 (.jw 1 69 71),kS 75 (.fG 74),kS 11 (.new [(iV 0)] 3),kN (.store 1 11 73),kS 12 (.jC 75)]) (.seq (kO [kS 76 (.fG 11),kS 77 (.bin .add 3 76 (.const (iV 1))),kS 13 (.jC 77)]) (.block 6 (.loop (.seq (.seq (kO [kM 78 13,kM 79 1,kS 80 (.pV 79),kS 81 (.bin .lss 3 78 80)]) (.cond 81 .skip (.exit 6))) (.seq (.block 7 (.seq (kO [kM 84 1,kM 85 13,kS 86 (.jw 1 84 85),kS 87 (.fG 86),kS 14 (.jC 87)]) (.seq (.seq (kO [kM 88 12,kS 89 (.pV 88),kS 90 (.bin .eql 3 89 (.const (iV 0))),kM 91 90,kH 92 91 (.mv 12),kH 93 91 (.pV 92),kH 94 91 (.mv 14),kH 95 91 (.pV 94),kH 96 91 (.bin .neq 3 93 95),kS 97 (.pick 91 kT 96),kM 98 97,kH 99 98 (.mv 14),kH 100 98 (.D5 (.func 247) [] [6,11]),kH 101 98 (kC 120 [99,100]),kS 102 (.pick 98 kT 101)]) (.cond 102 (.exit 7) .skip)) (.seq (kO [kM 103 0,kS 104 (.xS 3 1 8 [(iV 0)] 103 103),kS 15 (.jC 104)]) (.seq (.seq (kO [kM 105 15,kS 106 (.pV 105),kS 107 (.mv (.const (iV 0)))]) (.block 8 (.loop (.seq (kO [kS 108 (.bin .lss 3 107 106)]) (.seq (.cond 108 .skip (.exit 8)) (.seq (.block 9 (.seq (kO [kM 109 107,kS 16 (.jC 109)]) (kO [kM 110 15,kM 111 16,kM 112 16,kS 113 (.jw 1 110 111),kN (.store 1 113 112)]))) (kO [kS 114 (.bin .add 3 107 (.const (iV 1))),kM 107 114]))))))) (.seq (.seq (kO [kM 115 12,kS 116 (.pV 115),kS 117 (.mv (.const (iV 0)))]) (.block 10 (.loop (.seq (kO [kS 118 (.bin .lss 3 117 116)]) (.seq (.cond 118 .skip (.exit 10)) (.seq (.block 11 (.seq (kO [kM 119 117,kS 17 (.jC 119)]) (kO [kM 120 15,kM 121 12,kM 122 17,kS 123 (.jw 1 121 122),kS 124 (.fG 123),kM 125 15,kM 126 14,kM 127 17,kS 128 (.jw 1 126 127),kS 129 (.fG 128),kM 130 14,kM 131 17,kS 132 (.jw 1 130 131),kS 133 (.fG 132),kM 134 12,kM 135 17,kS 136 (.jw 1 134 135),kS 137 (.fG 136),kS 138 (.jw 1 120 124),kN (.store 1 138 133),kS 139 (.jw 1 125 129),kN (.store 1 139 137)]))) (kO [kS 140 (.bin .add 3 117 (.const (iV 1))),kM 117 140]))))))) (kO [kM 141 4,kM 142 15,⟨⟨(some 143),none,(.Ah 22 1 [vS] [⟨0,⟨1,142⟩⟩])⟩,[]⟩,kS 144 (.append 22 1 24 141 143),kS 4 (.jC 144)]))))))) (kO [kM 82 13,kS 83 (.bin .add 3 82 (.const (iV 1))),kS 13 (.jC 83)])))))))) (kO [kS 145 (.bin .add 3 71 (.const (iV 1))),kM 71 145]))))))) (.seq (kO [kM 146 4,kS 4 (.jC 146),kS 5 (.jC (.const (iV 0)))]) .ret))))))⟩
def asL:ng prog 209=some aeq:=s8
def mV(n:Nat)(L:ae Int):ae Bool:=(List.range n).map λc:Nat=>decide ((c:Int)∈L)
def LH(n:Nat)(L:ae Int):(mV n L).length=n:=by unfold mV;rw[bi,o8]
variable{c:Nat}{L:ae Int}
def LJ(h:c<n):(mV n L)[c]? =some (decide ((c:Int)∈L)):=by
 unfold mV;rw[eF,uk h];rfl
def asM(h:c<n):(mV n L).set c true=mV n (L++[(c:Int)]):=by
 refine iQ λk=>?_;rw[rM,LH];by_cases hk:k<n
 .rw[LJ hk];by_cases e:c=k
  .subst e;rw[if_pos rfl,if_pos hk,LJ hk];congr 1;exact(eB (wQ _ (bR.2 rfl))).symm
  .rw[if_neg e,LJ hk];congr 1;refine nZ.2 ?_;rw[fU,bR];exact⟨.inl,λh=>h.elim id λh=>absurd (Int.ofNat.inj h).symm e⟩
 .have e1:(mV n L)[k]? =none:=fT (by rw[LH];omega);have e2:(mV n (L++[(c:Int)]))[k]? =none:=fT (by rw[LH];omega);rw[e1,e2,if_neg s6]
def asN(n:Nat):zeros [.bool false] n=(mV n []).map .bool:=by
 have:mV n []=List.replicate n false:=by
  unfold mV;rw[List.eq_replicate_iff];exact⟨by rw[bi,o8],λb hb=>by obtain⟨c,_,rfl⟩:=cO.1 hb;exact dA s7⟩
 rw[this];have key:∀n:Nat,zeros [.bool false] n=(List.replicate n false).map .bool:=by
  intro n;exact rI
 exact key n
variable{b:Nat}
def SC{xs:ae Bool}(h:xs.length=n):qV (pt b (.cells (xs.map .bool))) [ay lG (.slice (some ⟨b,0,some 0⟩) n n) xs]:=by
 subst h;intro w w' S ⟨h1,h2⟩ hle hh hz g hg;rw[bR.1 hg];refine .inr ⟨b,0,0,_,_,⟨rfl,bG _,.inl rfl⟩,⟨hz b wj,.inl ud⟩,λk x hk=>⟨(),λj u hj=>?_,λf hf=>by cases hf⟩⟩;match j,hj with
 |0,hj=>
  have hj:some (Value.bool x)=some u:=hj;rw[show 0+k*lG.n+0=k by show 0+k*1+0=k;omega,eF,hk];exact hj
 |j+1,hj=>cases hj
def IG(vs:ae ah)(rows:ae (ae Bool)):aI:=⟨λw=>∀(k:Nat) v r,vs[k]? =some v->rows[k]? =some r->(ay lG v r).p w,λa h k v r h1 h2=>(ay lG v r).mono a (h k v r h1 h2)⟩
variable{rows:ae (ae Bool)}
def asO{m:Nat}{vs:ae ah}{w:Wd}(h1:(aX b 0 vs).p w)(h2:(IG vs rows).p w)(hv:vs.length=m)(hr:rows.length=m):(ay (aA lG) (.slice (some ⟨b,0,some 0⟩) m m) rows).p w:=by
 obtain⟨cells,q1,q2⟩:=h1;subst hr;refine .inr ⟨b,0,0,_,cells,⟨rfl,bG _,.inl rfl⟩,q1,λk r hk=>?_⟩;have hlt:=(bz.1 hk).1;have hv2:vs[k]? =some (vs[k]'(s6)):=bN _;refine⟨vs[k]'(s6),λj u hj=>?_,λf hf=>by rw[bR.1 hf];exact h2 k _ r hv2 hk⟩;match j,hj with
 |0,hj=>
  have hj:some (vs[k]'(s6))=some u:=hj;have:=q2 k _ hv2;rw[show 0+k*(aA lG).n+0=0+k by show 0+k*1+0=0+k;omega,this];exact hj
 |j+1,hj=>cases hj
def asP{b1 b2 m:Nat}{vs:ah}{r:ae Bool}{x:Bool}(hr:rows[i]? =some r)(hx:r[c]? =some x):
 KP prog (.func 247) [] [ptr' b1,ptr' b2] (iV (c:Int)) [aX b1 0 [vs],aX b2 0 [iV (i:Int)],ay (aA lG) vs rows] x:=by
 have hi:=(bz.1 hr).1;have hc:=(bz.1 hx).1;refine gB 247 λB w0=>?_;refine gX (aA lG) (xs:=rows) (k:=i) λ_ _ r2 (vr:ah) hr2=>?_;rw[hr]at hr2;obtain rfl:=Option.some.inj hr2;refine go ?_;intro _ _ x2 hx2;rw[hx]at hx2;obtain rfl:=Option.some.inj hx2;exact gQ () trivial
def mo:ae Int->ae Int->ae Int->ae Int
 |p,x::a,y::b=>mo ((p.set x.toNat y).set y.toNat x) a b
 |p,_,_=>p
def Qy:∀(a b p:ae Int),(mo p a b).length=p.length
 |[],_,p=>by rw[mo];intro x a y b h;cases h
 |x::a,[],p=>by rw[mo];intro x a y b _ h;cases h
 |x::a,y::b,p=>by rw[mo,Qy a b,lu,lu]
def aer:∀(a b p:ae Int) (x y:Int),a.length=b.length->mo p (a++[x]) (b++[y])=((mo p a b).set x.toNat y).set y.toNat x
 |[],[],p,x,y,_=>by simp[mo]
 |[],_::_,_,_,_,h=>by cases h
 |_::_,[],_,_,_,h=>by cases h
 |u::a,v::b,p,x,y,h=>by
  show mo p (u::(a++[x])) (v::(b++[y]))=_;rw[mo,aer a b _ x y tj];rfl
def sJ(a b:ae Int):Bool:=!(decide (a.length=0))&&decide (a.length=b.length)&&!(b.any λc=>decide (c∈a))
def BG(n:Nat)(lists:ae (ae Int))(i:Nat):ae (ae Int):=match lists[i]? with
 |some a=>((lists.drop (i+1)).filter (sJ a)).map (mo (upTo' n) a)
 |none=>[]
def nD(n:Nat)(lists:ae (ae Int)):ae (ae Int):=(List.range lists.length).flatMap (BG n lists)
variable{lists:ae (ae Int)}
def asQ:(BG n lists i).length<=lists.length:=by
 unfold BG;split
 .rw[bi];refine lZ (zh ..) ?_;rw[uo];omega
 .exact bI _
def Ww{n:Nat}{lists:ae (ae Int)}:∀i,((List.range i).flatMap (BG n lists)).length<=i*lists.length
 |0=>bI _
 |i+1=>by
  rw[BX,Xa,fu,wO,BS];have h1:=Ww (n:=n) (lists:=lists) i;have h2:(List.flatMap (BG n lists) [i]).length<=lists.length:=by
   rw[List.flatMap_singleton];exact asQ
  omega
def Wx(hn:n<=256)(hm:lists.length<=4096)(hv:∀l∈lists,kz n l/\l.Nodup)(hb:∀l∈lists,l.length<=1000000):
 aY prog (.func 209) [iV (n:Int),v] [] [] [ay (aA aj) v lists] (λw:ah=>.tuple ⟨[w,iV 0]⟩) (λw=>[ap (aA aj) w (nD n lists)]) (λ_=>[]) (λ_=>True):=by
 refine l7 aeq asL λB w0=>?_;refine gF (aA aj) v lists λal cl el=>?_;subst el;refine aK ?_ ?_<;>intro h1
 .exfalso;omega
 refine go ?_;refine qA lists.length ⟨s6,s6,s6⟩ λbs=>?_;have hz:zeros [Value.slice none 0 0] lists.length=List.replicate lists.length (.slice none 0 0):=by
  induction lists.length with
  |zero=>rfl
  |succ n ih=>rw[wR,<- ih];rfl
 rw[hz];refine go ?_;intro b6;refine go ?_;refine fA (IG [] ((lists.take 0).map (mV n))) (λw _ k v r h _=>by cases h) ?_;refine dL (λy:Nat×ae ah=>lists.length - y.1) (λy=>[(29,iV (y.1:Int))]) (λy=>[pt bs (.cells (y.2++List.replicate (lists.length - y.1) (.slice none 0 0)))]) (λy=>[IG y.2 ((lists.take y.1).map (mV n))]) (λy=>y.1<=lists.length/\y.2.length=y.1) (0,[]) ⟨bI _,rfl⟩ (hk:=tc) (body:=?_);rintro⟨i,vs⟩ ⟨hi,hvl⟩;dsimp only at hi hvl⊢;refine aK ?_ ?_<;>intro h2
 .refine gX (aA aj) (xs:=lists) λ_ _ L (vL:ah) hL=>?_;have Dt:=aV hL;obtain⟨hLr,hLn⟩:=hv L Dt;have hLb:=hb L Dt;refine gF aj vL L λaL cL eL=>?_;subst eL;refine go ?_;refine qA n ⟨s6,s6,s6⟩ λbr=>?_;rw[asN];refine go ?_;have hset:(vs++List.replicate (lists.length - i) (Value.slice none 0 0)).set (0+i*1) (.slice (some ⟨br,0,some 0⟩) n n)=(vs++[.slice (some ⟨br,0,some 0⟩) n n])++List.replicate (lists.length - (i+1)) (.slice none 0 0):=by
   rw[DU _ _ s6,show 0+i*1 - vs.length=0 by omega,show lists.length - i=(lists.length - (i+1))+1 by omega,wR,fo];rfl
  refine jN (b:=bs) (o:=0+i*1) (cs:=vs++List.replicate (lists.length - i) (.slice none 0 0)) (v:=.slice (some ⟨br,0,some 0⟩) n n) (cs':=(vs++[.slice (some ⟨br,0,some 0⟩) n n])++List.replicate (lists.length - (i+1)) (.slice none 0 0)) hset (by rw[fu,zg];omega) ?_;have hget:((vs++[.slice (some ⟨br,0,some 0⟩) n n])++List.replicate (lists.length - (i+1)) (Value.slice none 0 0))[0+i*1]? =some (.slice (some ⟨br,0,some 0⟩) n n):=by
   rw[ql (by rw[fu,DZ];omega),sN s6,show 0+i*1 - vs.length=0 by omega];rfl
  refine go ?_;generalize hcs:(vs++[.slice (some ⟨br,0,some 0⟩) n n])++List.replicate (lists.length - (i+1)) (Value.slice none 0 0)=CS at hget⊢;refine dL (λj:Nat=>L.length - j) (λj=>[(41,iV (j:Int))]) (λj=>[pt br (.cells ((mV n (L.take j)).map .bool))]) (λ_=>[]) (λj=>j<=L.length) 0 (bI _) (hk:=tc) (body:=?_);intro j hj;refine aK ?_ ?_<;>intro h3
  .refine go ?_;intro _ _ x hx;have nA:=hLr x (aV hx);obtain⟨cn,rfl⟩:=dW nA.1;have hcn:cn<n:=by omega
   have hnot:((cn:Int))∉L.take j:=λh=>by
    obtain⟨k,hk⟩:=gT h;rw[wP]at hk;split at hk
    .rename_i hkj;have:=(List.getElem?_inj s6 hLn).1 (hk.trans hx.symm);omega
    .cases hk
   refine go ?_;rw[dA (show¬((n:Int)<=(cn:Int))by omega)];refine go ?_;refine oN (b:=bs) (o:=0+i*1) (cs:=CS) (.slice (some ⟨br,0,some 0⟩) n n) hget ?_;refine go ?_;refine oN (b:=br) (o:=0+cn*1) (cs:=(mV n (L.take j)).map .bool) (.bool false) (by rw[show 0+cn*1=cn by omega,eF,LJ hcn,dA hnot];rfl) ?_;refine go ?_;refine oN (b:=bs) (o:=0+i*1) (cs:=CS) (.slice (some ⟨br,0,some 0⟩) n n) hget ?_;refine go ?_;refine jN (b:=br) (o:=0+cn*1) (cs:=(mV n (L.take j)).map .bool) (v:=.bool true) (cs':=(mV n (L.take (j+1))).map .bool) (by rw[show 0+cn*1=cn by omega,<- qo,asM hcn,fq hx]) (by rw[bi,LH];omega) ?_;exact dg
  obtain rfl:j=L.length:=s6
  rw[dK];refine gZ (SC (LH n L)) ?_;refine go ?_;subst hcs;refine fA (IG (vs++[.slice (some ⟨br,0,some 0⟩) n n]) ((lists.take (i+1)).map (mV n))) (λw hw k v r hv hr=>?_) ?_
  .rw[fq hL,bZ]at hr;have hll:((lists.take i).map (mV n)).length=i:=by rw[bi,gW];omega
   by_cases hk:k<i
   .rw[ql s6]at hv hr;exact hw (IG vs ((lists.take i).map (mV n))) s7 k v r hv hr
   .rw[sN s6]at hv hr;have hk0:k=i:=by
     have:=(bz.1 hv).1;simp at this;omega
    subst hk0;rw[hvl,um]at hv;rw[hll,um]at hr;cases hv;cases hr;exact hw (ay lG (.slice (some ⟨br,0,some 0⟩) n n) (mV n L)) s7
  exact aW (i+1,vs++[.slice (some ⟨br,0,some 0⟩) n n]) E0 ⟨by show i+1<=_;omega,by show(vs++_).length=i+1;rw[fu,hvl];rfl⟩
 obtain rfl:i=lists.length:=s6
 rw[um,dK,show List.replicate 0 (Value.slice none 0 0)=[]from rfl,jo];refine gP bs ?_;refine gP b6 ?_;refine fA (ay (aA lG) (.slice (some ⟨bs,0,some 0⟩) lists.length lists.length) (lists.map (mV n))) (λw hw=>asO (hw (aX bs 0 vs) s7) (hw (IG vs (lists.map (mV n))) s7) hvl (by rw[bi])) ?_;refine go ?_;refine kv (aA aj) ?_;refine dL (λy:Nat×ah×ae (ae Int)=>lists.length - y.1) (λy=>[(71,iV (y.1:Int)),(4,y.2.1)]) (λy=>[ap (aA aj) y.2.1 y.2.2]) (λ_=>[]) (λy=>y.1<=lists.length/\y.2.2=(List.range y.1).flatMap (BG n lists)) (0,.slice none 0 0,[]) ⟨bI _,rfl⟩ (hk:=tc) (body:=?_);rintro⟨i,v4,ys⟩ ⟨hi,hys⟩;dsimp only at hi hys⊢;refine aK ?_ ?_<;>intro h3
 rotate_left
 .obtain rfl:i=lists.length:=by omega
  refine go ?_;exact gQ v4 trivial (hk:=by rw[hys];exact .cons .here .nil)
 refine gX (aA aj) (xs:=lists) λ_ _ a (va:ah) ha=>?_;have ham:=aV ha;obtain⟨har,han⟩:=hv a ham;have hab:=hb a ham;refine gF aj va a λaa ca ea=>?_;subst ea;refine go ?_;intro b11;refine go ?_;refine gP b11 ?_;have hbase:=Ww (n:=n) (lists:=lists) i;rw[<- hys]at hbase;have hmul:i*lists.length<=4096*4096:=Nat.mul_le_mul s6 hm;refine dL (λy:Nat×ah×ae (ae Int)=>lists.length - y.1) (λy=>[(13,iV (y.1:Int)),(4,y.2.1)]) (λy=>[ap (aA aj) y.2.1 y.2.2]) (λ_=>[]) (λy=>i+1<=y.1/\y.1<=lists.length/\y.2.2=ys++(((lists.drop (i+1)).take (y.1 - (i+1))).filter (sJ a)).map (mo (upTo' n) a)) (i+1,v4,ys) ⟨bG _,by show i+1<=_;omega,by show ys=ys++_;rw[um,List.take_zero];exact(jo _).symm⟩ (hk:=tc) (body:=?_);rintro⟨k,v5,zs⟩ ⟨hk1,hk2,hzs⟩;dsimp only at hk1 hk2 hzs⊢;refine aK ?_ ?_<;>intro h4
 rotate_left
 .obtain rfl:k=lists.length:=by omega
  refine go ?_;refine aW (i+1,v5,zs) E0 ⟨by show i+1<=_;omega,?_⟩;show zs=(List.range (i+1)).flatMap (BG n lists);rw[BX,Xa,<- hys,hzs,List.flatMap_singleton,Ag wl];unfold BG;rw[ha]
 refine gX (aA aj) (xs:=lists) λ_ _ b (vb:ah) hbk=>?_;have Gf:=aV hbk;obtain⟨hbr,hbn⟩:=hv b Gf;have hbb:=hb b Gf;refine gF aj vb b λab cb eb=>?_;subst eb;have hnx:((lists.drop (i+1)).take (k+1 - (i+1))).filter (sJ a)=((lists.drop (i+1)).take (k - (i+1))).filter (sJ a)++(if sJ a b=true then[b]else[]):=by
  have e:(lists.drop (i+1))[k - (i+1)]? =some b:=by rw[rH,show i+1+(k - (i+1))=k by omega];exact hbk
  rw[show k+1 - (i+1)=(k - (i+1))+1 by omega,fq e,ze];congr 1;rw[FH];split<;>rfl
 have skip:sJ a b=false->zs=ys++(((lists.drop (i+1)).take (k+1 - (i+1))).filter (sJ a)).map (mo (upTo' n) a):=λh=>by
  rw[hnx,h,if_neg s7,jo];exact hzs
 refine go ?_;by_cases ha0:((a.length:Int)=0)
 .rw[eB ha0];have ho:sJ a b=false:=by unfold sJ;rw[eB (show a.length=0 by omega)];rfl
  exact eC
 rw[dA ha0];refine go ?_;by_cases hne:((a.length:Int)≠(b.length:Int))
 .rw[eB hne];have ho:sJ a b=false:=by unfold sJ;rw[dA (show¬a.length=b.length by omega),Bool.and_false];rfl
  exact eC
 rw[dA hne];have hlen:a.length=b.length:=s6
 refine gC (UF (fn:=.func 247) (first:=[]) (cap:=[ptr' b6,ptr' b11]) (F1:=[aX b6 0 [.slice (some ⟨bs,0,some 0⟩) lists.length lists.length],aX b11 0 [iV (i:Int)],ay (aA lG) (.slice (some ⟨bs,0,some 0⟩) lists.length lists.length) (lists.map (mV n))]) (p:=λc=>decide (c∈a)) (va:=.slice ab b.length cb) (xs:=b) s6 (λx hx=>by
  have nA:=hbr x hx;obtain⟨cn,rfl⟩:=dW nA.1;exact asP (m:=0) (r:=mV n a) (by rw[eF,ha];rfl) (LJ s6))) λ_ _=>?_
 refine go ?_;cases hany:b.any λc=>decide (c∈a)with
 |true=>
  have ho:sJ a b=false:=by unfold sJ;rw[hany,Bool.not_true,Bool.and_false]
  exact eC
 |false=>
  have ho:sJ a b=true:=by unfold sJ;rw[hany,dA (show¬a.length=0 by omega),eB hlen];rfl
  have avy:∀x∈b,x∉a:=λx hx h=>by
   have:=Ml.1 hany x hx;exact this (eB h)
  refine go ?_;refine qA n ⟨s6,s6,s6⟩ λbp=>?_;rw[Dq];refine go ?_;refine dL (λj:Nat=>n - j) (λj=>[(107,iV (j:Int))]) (λj=>[pt bp (.cells ((iP (upTo' j) n).map iV))]) (λ_=>[]) (λj=>j<=n) 0 (bI _) (hk:=tc) (body:=?_);intro j hj;have pO:=kK j;refine aK ?_ ?_<;>intro h5
  .refine go ?_;refine jN (b:=bp) (o:=0+j*1) (cs:=(iP (upTo' j) n).map iV) (v:=iV (j:Int)) (cs':=(iP (upTo' (j+1)) n).map iV) Ft Fc ?_;exact dg
  obtain rfl:j=n:=s6
  rw[Fa pO];refine go ?_;refine dL (λm:Nat=>a.length - m) (λm=>[(117,iV (m:Int))]) (λm=>[pt bp (.cells ((mo (upTo' j) (a.take m) (b.take m)).map iV))]) (λ_=>[]) (λm=>m<=a.length) 0 (bI _) (hk:=tc) (body:=?_);intro m hmm;refine aK ?_ ?_<;>intro h6
  .refine go ?_;intro _ _ x hx _ _ y hy _ _ y2 hy2 _ _ x2 hx2;rw[hy]at hy2;rw[hx]at hx2;obtain rfl:=Option.some.inj hy2;obtain rfl:=Option.some.inj hx2;have nA:=har x (aV hx);have hyr:=hbr y (aV hy);obtain⟨xn,rfl⟩:=dW nA.1;obtain⟨yn,rfl⟩:=dW hyr.1;have hrl:(mo (upTo' j) (a.take m) (b.take m)).length=j:=by rw[Qy,pO]
   have hsn:mo (upTo' j) (a.take (m+1)) (b.take (m+1))=((mo (upTo' j) (a.take m) (b.take m)).set xn (yn:Int)).set yn (xn:Int):=by
    rw[fq hx,fq hy,aer _ _ _ _ _ (by rw[gW,gW];omega)];rfl
   refine go ?_;refine jN (b:=bp) (o:=0+xn*1) (cs:=(mo (upTo' j) (a.take m) (b.take m)).map iV) (v:=iV (yn:Int)) (cs':=((mo (upTo' j) (a.take m) (b.take m)).set xn (yn:Int)).map iV) (by rw[show 0+xn*1=xn by omega,qo]) (by rw[bi,hrl];omega) ?_;refine go ?_;refine jN (b:=bp) (o:=0+yn*1) (cs:=((mo (upTo' j) (a.take m) (b.take m)).set xn (yn:Int)).map iV) (v:=iV (xn:Int)) (cs':=(mo (upTo' j) (a.take (m+1)) (b.take (m+1))).map iV) (by rw[hsn,show 0+yn*1=yn by omega,<- qo]) (by rw[bi,lu,hrl];omega) ?_;refine go ?_;exact aW (m+1) s6 s6
  obtain rfl:m=a.length:=s6
  rw[dK,Ag (by omega:b.length<=a.length)];have hrl:(mo (upTo' j) a b).length=j:=by rw[Qy,pO]
  refine gZ (uJ (b:=bp) (f:=0) (c:=j) (xs:=mo (upTo' j) a b) (hc:=s6)) ?_;rw[hrl];refine go ?_;intro avz;have hzl:zs.length<=4096*4096+4096:=by
   rw[hzs,fu,bi];have h7:((((lists.drop (i+1)).take (k - (i+1))).filter (sJ a))).length<=lists.length:=lZ (zh ..) (by rw[gW,uo];omega);omega
  refine jy (aA aj) (v:=v5) (xs:=zs) (mo (upTo' j) a b) (.slice (some ⟨bp,0,some 0⟩) j j) (cs:=[.slice (some ⟨bp,0,some 0⟩) j j]) s6 (next:=λv6=>?_);refine go ?_;refine aW (k+1,.slice v6 (zs.length+1) (zs.length+1),zs++[mo (upTo' j) a b]) (by show lists.length - (k+1)<lists.length - k;omega) ⟨by show i+1<=k+1;omega,by show k+1<=_;omega,?_⟩;show zs++[mo (upTo' j) a b]=ys++_;rw[hnx,ho,if_pos rfl,bZ,<- fo,<- hzs];rfl
