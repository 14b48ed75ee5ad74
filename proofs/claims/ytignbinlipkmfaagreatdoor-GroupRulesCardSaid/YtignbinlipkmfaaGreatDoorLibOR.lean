/- Part. -/
import Derived.Test.YtignbinlipkmfaaGreatDoorLibNR
set_option linter.all false
set_option maxRecDepth 10000
set_option maxHeartbeats 4000000
namespace Go.Proofs.YtignbinlipkmfaaGreatDoor
open Tryz (prog)
open Go.Ideal Kd Canon
noncomputable def VH:=qd prog 108
def ac5:lF prog 108=some VH:=th
def ac6(c:Nat):(Builtin.zeroCells (Value.slice none 0 0).cells c)=⟨List.replicate c (.slice none 0 0)⟩:=by
 apply Array.ext';unfold Builtin.zeroCells;refine List.ext_getElem (by simp[Value.cells]) λk h1 h2=>?_;simp[Value.cells,Nat.mod_one]
def aqX:TJ prog 108 (.slice none 0 0) 22 24 where
 room b off n c i vb vo cs v w h1 h2 h3 h4 h5 h6 h7 h8 h9 h10 h11 tA tB kA kB h12 h13 h14 h15 h16:=aqp b off n c i vb vo cs v w h1 h2 h3 h4 h5 h6 h7 h8 h9 h10 h11 tA tB kA kB h12 h13 h14 h15 h16
 grow b off n c i vb vo cs v w h1 h2 h3 h4 h5 h6 h7 h8 h9:=by
  intro cs0;obtain⟨e,w',fr,⟨q1,q2⟩,rest⟩:=aqr b off n c i vb vo cs v w h1 h2 h3 h4 h5 h6 h7 h8 h9 cs0;refine⟨e,w',fr,⟨grownCap w (n+1) c 22,grownCap_ge w _ _ _,q1,?_⟩,rest⟩;rw[q2,ac6,ac6];have e:∀A B:ae ah,((cs.take i).toArray++(⟨A⟩:Array ah)++(⟨B⟩:Array ah))=⟨cs.take i++A++B⟩:=λA B=>by apply Array.ext';simp
  rw[e]
variable{n:Nat}{v:ah}{xs:ae (ae Int)}
def Qf{B:ae Nat}{w0:Wd}{kl kl':ae OA}{F:ae aM}{K:KO}{ds:ae Tmp}{rest:ae bW}{l:qr}{D:ae Deferred}{pm:ak FrameMode}{ro:ak Nat}{d:Nat}{g:ak (Tmp×Bool)}{x i:az}(k:Nat)(z:ae Int){kk:IntKind}{d2:Nat}{g2:ak (Tmp×Bool)}(hz:xs[k]? =some z)
 (next:∀b o (y:ah),R (λh=>aJ prog ds rest (act n ((d2,y)::(d,.pointer (some ⟨b,o,none⟩))::l) D pm ro) h K) B w0 kl (aj ai y z::F))
 (hn:Nat.blt d n=true:=by rfl) (hg:bV l g=true:=by rfl) (hn2:Nat.blt d2 n=true:=by rfl) (hg2:∀u,bV ((d,u)::l) g2=true:=by intro _;rfl) (hx:ev l x=v:=by conv=>lhs;whnf) (hi:ev l i=.int kk (k:Int):=by rfl)
 (hk:aB (ap (ay ai) v xs) kl kl':=by exact dV):
 R (λh=>aJ prog ds (⟨⟨some d,g,.jv 1 x i⟩,[]⟩::⟨⟨some d2,g2,.fE (.tmp d)⟩,[]⟩::rest) (act n l D pm ro) h K) B w0 kl F:=by
 intro w s;have s1:=s.gz hk;obtain⟨S,⟨S1,S2,p,p2,e⟩,h2,h3⟩:=s1.own;have hlt:=(bJ.1 hz).1;rcases p with⟨h,_⟩|⟨b,o,f,cells,e1,hf,e2,hb,hcl,hel⟩
 .rw[h]at hz;cases hz
 .subst e1;obtain⟨y,u1,u2⟩:=hel k z hz;have hc:cells[o+(k:Int).toNat*1]? =some y:=by
   rw[jJ];exact u1 0 y rfl
  exact dj
def Bj(lt:Nat->Bool)(i j:Nat):Nat:=if h:i<j then(if lt ((i+j)/2)then Bj lt ((i+j)/2+1) j else Bj lt i ((i+j)/2))else i
termination_by j - i
decreasing_by all_goals omega
def aq1{lt:Nat->Bool}:∀(m i j:Nat),j - i<=m->i<=j->Bj lt i j<=j:=by
 intro m;induction m with
 |zero=>intro i j h h2;rw[Bj,dif_neg tf];omega
 |succ m ih=>
  intro i j h h2;rw[Bj];split
  .split
   .exact ih _ _ tf tf
   .exact lV (ih _ _ tf tf) tf
  .omega
def Qg(xs:ae (ae Int))(p:ae Int)(k:Nat):Bool:=match xs[k]? with
 |some q=>decide (eT eB q p<0)
 |none=>false
def EZ(xs:ae (ae Int))(p:ae Int)(k:Nat):Bool:=match xs[k]? with
 |some q=>decide (eT eB q p=0)
 |none=>false
def tH(xs:ae (ae Int))(p:ae Int):Nat:=Bj (Qg xs p) 0 xs.length
variable{p:ae Int}
def VI:tH xs p<=xs.length:=aq1 _ _ _ (bI _) (bH _)
def ac7{va vb:ah}{xs ys:ae Int}(hal:xs.length<=1000000)(hbl:ys.length<=1000000):
 dF prog 107 [va,vb] [aj ai va xs,aj ai vb ys] (iV (eT eB xs ys)):=by
 refine gB 107 λB w0=>?_;refine gC (ab6 (xs:=xs) (ys:=ys) hal hbl) λ_ _=>?_;exact fQ
def aq2{vp:ah}(hl:xs.length<=1000000)(hls:∀q∈xs,q.length<=1000000)(hpl:p.length<=1000000):
 bG prog (.func 106) [v,vp,.func (.func 107) #[] #[]] [] [ap (ay ai) v xs] [aj ai vp p] (λ_:Unit=>.tuple ⟨[iV (tH xs p:Int),.bool (EZ xs p (tH xs p))]⟩) (λ_=>[ap (ay ai) v xs]) (λ_=>[]) (λ_=>True):=by
 refine gB 106 λB w0=>?_;refine OO (E:=ay ai) (v:=v) (xs:=xs) λav eav hnil=>?_;subst eav;refine gL (λy:Nat×Nat=>y.2 - y.1) (λy=>[(9,iV (y.1:Int)),(10,iV (y.2:Int))]) (λy=>y.1<=y.2/\y.2<=xs.length/\Bj (Qg xs p) y.1 y.2=tH xs p) (0,xs.length) ⟨bH _,bI _,rfl⟩ ?_;rintro⟨a,b⟩ ⟨hab,hb,hbs⟩;dsimp only at hab hb hbs⊢;refine aC ?_ ?_<;>intro h1
 .have hsh:(a+b)>>>1=(a+b)/2:=QX _ _;have Je:a<=(a+b)/2/\(a+b)/2<b:=by omega
  rw[Bj,dif_pos tf]at hbs;generalize hm:(a+b)/2=m at Je hbs hsh;refine go ?_;rw[show(a:Int)+(b:Int)=((a+b:Nat):Int)by omega];refine(cZ rfl rfl (zw (k:=.u64) (m:=((a+b:Nat):Int)) (by kernel_rfl:prog.underlying 3=some (.int .i64)) th rfl (Ty tf))).h ?_;refine(cZ rfl rfl (ZL (a:=a+b) (b:=1) rfl rfl tf)).h ?_;rw[hsh];refine(cZ rfl rfl (zw (k:=.i64) (m:=(m:Int)) (by kernel_rfl:prog.underlying 53=some (.int .u64)) th rfl (wrapN tf))).h ?_;refine go ?_;have hq:xs[m]? =some (xs[m]'(tf)):=bY _;generalize hqe:xs[m]'(tf)=q at hq;have hlt:Qg xs p m=decide (eT eB q p<0):=by unfold Qg;rw[hq]
  refine Qf m q hq λ_ _ vq=>?_;refine gC (ac7 (xs:=q) (ys:=p) (hls q (aU hq)) hpl) λ_ _=>?_;refine aC ?_ ?_<;>intro h2
  .rw[hlt,dQ h2,if_pos rfl]at hbs;refine go ?_;exact aO (m+1,b) (by show b - (m+1)<b - a;omega) ⟨by show m+1<=b;omega,hb,hbs⟩
  .rw[hlt,aW h2,if_neg tg]at hbs;refine go ?_;exact aO (a,m) (by show m - a<b - a;omega) ⟨by show a<=m;omega,by show m<=_;omega,hbs⟩
 have hba:a=b:=tf
 subst hba;have hbe:tH xs p=a:=by rw[<- hbs,Bj,dif_neg (QR a)]
 rw[hbe];refine go ?_;by_cases ha:((a:Int)<(xs.length:Int))
 .rw[dQ ha];have hq:xs[a]? =some (xs[a]'(tf)):=bY _;generalize hqe:xs[a]'(tf)=q at hq;have he:EZ xs p a=decide (eT eB q p=0):=by unfold EZ;rw[hq]
  refine go ?_;refine Qf a q hq λ_ _ vq=>?_;refine gC (ac7 (xs:=q) (ys:=p) (hls q (aU hq)) hpl) λ_ _=>?_;refine go ?_;exact fu () (hv:=by rw[he];rfl) (hp:=trivial)
 .rw[aW ha];have he:EZ xs p a=false:=by unfold EZ;rw[iJ tf]
  refine go ?_;exact fu () (hv:=by rw[he];rfl) (hp:=trivial)
variable{vb:Nat}
def aq4{c:ak Nat}(hn:(xs.length+1)*24<=1073741824):
 bG prog (.func 108) [gv (ay ai).n c xs.length,iV (xs.length:Int),.slice (some ⟨vb,0,some 0⟩) 1 1] [] [ap (ay ai) (gv (ay ai).n c xs.length) xs,pt vb (.cells [v])] [aj ai v p]
  (λc:Nat=>.slice (some ⟨c,0,some (ay ai).n⟩) (xs.length+1) (xs.length+1)) (λc=>[ap (ay ai) (.slice (some ⟨c,0,some (ay ai).n⟩) (xs.length+1) (xs.length+1)) (xs++[p])]) (λ_=>[]) (λ_=>True):=by
 refine jD VH ac5 λB w0=>?_;cases c with
 |none=>
  by_cases h0:0<xs.length
  .exact aai (E:=ay ai) (xs:=xs) h0 (hk:=Bm)
  have hx:xs=[]:=lW.1 tf;subst hx;dsimp only[gv,List.length_nil];refine go ?_;refine(cZ (v:=.slice none 0 0) rfl rfl (λh=>rfl)).h ?_;refine go ?_;refine OL (ay ai) (v:=.slice none 0 0) (xs:=[]) p v ⟨tr,tr,tr⟩ (hk:=Bm) (next:=λc2=>?_);exact qe
 |some c=>
  dsimp only[gv];refine go ?_;refine(cZ rfl rfl (TN (b:=c) (o:=0) (f:=1) (m:=xs.length) (c:=xs.length) (lo:=xs.length) (hi:=xs.length) rfl (.inr rfl) Nat.one_pos (.inr ⟨_,rfl,rfl⟩) (.inl ⟨rfl,rfl⟩) (bI _) (bI _))).h ?_;refine aC ?_ ?_<;>intro h2
  rotate_left
  .exact absurd rfl h2
  refine go ?_;refine OL (ay ai) (v:=.slice (some ⟨c,0,some (ay ai).n⟩) xs.length xs.length) (xs:=xs) p v ⟨tf,tf,tf⟩ (next:=λc2=>?_);exact qe
def aq5:∃fn body,prog.funcs[108]? =some fn/\fn.body=some body/\fn.name≠ "runtime.NumGoroutine" :=by
 obtain⟨fn,h1,h2⟩:=PD.fn 108 VH ac5;have h3:prog.funcs[108]? =some fn:=h1;have h4:(fn.name== "runtime.NumGoroutine")=false:=by
  have e:(prog.funcs[108]?).map (λf=>f.name== "runtime.NumGoroutine")=some false:=th
  exact jx
 have h5:fn.body.isSome=true:=by
  have e:(prog.funcs[108]?).map (λf=>f.body.isSome)=some true:=th
  exact jx
 exact jz
variable{i:Nat}
def aq6{c:ak Nat}(hi:i<=xs.length)(hn:(xs.length+1)*24<=1073741824):
 bG prog (.func 108) [gv (ay ai).n c xs.length,iV (i:Int),.slice (some ⟨vb,0,some 0⟩) 1 1] [] [ap (ay ai) (gv (ay ai).n c xs.length) xs,pt vb (.cells [v])] [aj ai v p]
  (λc:Nat=>.slice (some ⟨c,0,some (ay ai).n⟩) (xs.length+1) (xs.length+1)) (λc=>[ap (ay ai) (.slice (some ⟨c,0,some (ay ai).n⟩) (xs.length+1) (xs.length+1)) (kY xs i p)]) (λ_=>[]) (λ_=>True):=by
 by_cases hie:i=xs.length
 .subst hie;have e:kY xs xs.length p=xs++[p]:=by unfold kY;rw[bP,List.drop_length]
  rw[e];exact aq4 hn
 cases c with
 |none=>
  intro B w s;obtain⟨S,⟨S1,S2,q1,q2,ee⟩,h2,h3⟩:=s.own;rcases q1 with⟨h,_⟩|⟨b,o,fl,cells,e1,_⟩
  .rw[h]at hi hie;exact absurd (Nat.le_antisymm hi (bH _)) hie
  .cases e1
 |some c=>
  obtain⟨fn,body,hf,hb,hnm⟩:=aq5;exact alO (E:=ay ai) rfl (.sl0 0 0) rfl aqX hf hb hnm (ad:=some ⟨c,0,some (ay ai).n⟩) (xs:=xs) (a:=p) (y:=v) (x:=v) rfl tf tf
def rE(l:ae (ae Int))(p:ae Int):ae (ae Int):=if EZ l p (tH l p)=true then l else kY l (tH l p) p
def oN(g:bA):ae (ae Int):=(uN g).foldl rE []
variable{l:ae (ae Int)}
def aq7:(rE l p).length<=l.length+1:=by
 unfold rE;split
 .omega
 .rw[Es VI];exact bI _
variable{q:ae Int}
def aq8(h:q∈rE l p):q∈l\/q=p:=by
 unfold rE at h;split at h
 .exact .inl h
 .unfold kY at h;rcases eP.1 h with h|h
  .exact .inl (Ij h)
  .rcases dB.1 h with h|h
   .exact .inr h
   .exact .inl (Ii h)
def ac8(xs l:ae (ae Int)):(xs.foldl rE l).length<=l.length+xs.length:=by
 induction xs generalizing l with
 |nil=>exact bI _
 |cons x xs ih=>rw[xC];have:=ih (rE l x);have:=aq7 (l:=l) (p:=x);rw[uS];omega
def ac9(xs l:ae (ae Int))(h:q∈xs.foldl rE l):q∈l\/q∈xs:=by
 induction xs generalizing l with
 |nil=>exact .inl h
 |cons x xs ih=>
  rw[xC]at h;rcases ih _ h with h|h
  .rcases aq8 h with h|h
   .exact .inl h
   .exact .inr (by rw[h];exact fF ..)
  .exact .inr (iw _ h)
def ada(g:bA):(uN g).length<=12:=by
 unfold uN;refine lV (WG ..) ?_;unfold kI;split<;>simp[Da]
variable{g:bA}
def VJ(h:q∈uN g):q.length=g.cells.length:=by
 unfold uN at h;obtain⟨f,_,hf⟩:=Ic.1 h;unfold uM at hf;dsimp only at hf;split at hf
 .rename_i h2;injection hf with hf;rw[<- hf,h2];unfold ik;rw[bC,bC]
 .cases hf
def adb(h:q∈oN g):q.length=g.cells.length:=by
 unfold oN at h;rcases ac9 _ _ h with h|h
 .cases h
 .exact VJ h
def ade(g:bA):(oN g).length<=12:=by
 unfold oN;have h1:=ac8 (uN g) [];have h2:=ada g;rw[Bw]at h1;omega
abbrev E5(b n:Nat)(ys:ae (ae Int)):OA:=JV λc:ak Nat=>[pt b (.cells [gv (ay ai).n c n]),ap (ay ai) (gv (ay ai).n c n) ys]
def aq9{vh vc:ah}(hS:rR g)(hg:eF g):
 bG prog (.func 64) [.agg ⟨iW g vh vc⟩] [] [] (jU g vh vc) (λc:ak Nat=>.tuple ⟨[gv (ay ai).n c (oN g).length,iV 0]⟩) (λc=>[ap (ay ai) (gv (ay ai).n c (oN g).length) (oN g)]) (λ_=>[]) (λ_=>True):=by
 have hcl:=hg.len;refine JW _ (wC 64) λB w0=>?_;dsimp only[jU];refine go ?_;intro b1 b2;refine gC (U7 (g:=g) (vh:=vh) (vc:=vc) hS) λe he=>?_;have he0:e=0:=he.2 hg;subst he0;refine gC (aqW (g:=g) (vh:=vh) (vc:=vc)) λbg _=>?_;try dsimp only[List.cons_append,List.nil_append]
 refine go ?_;refine gK (ay ai) ?_;rw[show Value.slice none 0 0=gv (ay ai).n none 0 from rfl];refine Ay (λc:ak Nat=>[pt b2 (.cells [gv (ay ai).n c 0]),ap (ay ai) (gv (ay ai).n c 0) ([]:ae (ae Int))]) none (h:=?_);refine Er (A:=E5 b2 0 ([]:ae (ae Int))) (A':=E5 b2 ([]:ae (ae Int)).length ([]:ae (ae Int))) rfl ?_;refine ak5 (Z:=Nat) (λ(ys:ae (ae Int)) (x:ah×ae Int)=>(rE ys x.2,Out.normal)) (λys=>[E5 b2 ys.length ys]) (λvs ys=>ys=(vs.map (·.2)).foldl rE []) [] _ (λ_ _=>[]) rfl (λvs s x rest hs hX _=>by rw[hs,ek,yU];rfl)
  (aqT (bg:=bg) (g:=g) (vh:=vh) (vc:=vc) hg)
  (by intro s x lo o B w0;dsimp only[List.cons_append,List.nil_append,List.zip_cons_cons,List.zip_nil_left,List.reverse_cons,List.reverse_nil];refine go ?_;have z0:Nat:=0;exact Gw z0 rfl) ?_ ?_ (λ_ _=>trivial)
 .rintro ig s ⟨vx,x⟩ rest z lo L B w0 hs hX;dsimp only[List.cons_append,List.nil_append]at hX⊢;have hxm:x∈uN g:=by rw[<- hX];simp
  have hxl:=VJ hxm;have hsl:s.length<=12:=by
   have h1:=ac8 (ig.map (·.2)) [];have h2:=congrArg List.length hX;have h3:=ada g;rw[bC,fV,uS]at h2;rw[hs];rw[bC]at h1;simp only[Bw]at h1;omega
  have hse:∀q∈s,q.length<=1000000:=λq hq=>by
   rw[hs]at hq;rcases ac9 _ _ hq with h|h
   .cases h
   .have:q∈uN g:=by rw[<- hX,ek];exact uR _ h
    rw[VJ this];omega
  refine Cj (h:=λc=>?_);refine gF ai vx x λax cx ex=>?_;subst ex;generalize hv:gv (ay ai).n c s.length=v;refine gC (aq2 (v:=v) (vp:=.slice ax x.length cx) (xs:=s) (p:=x) tf hse tf) λ_ _=>?_;refine go ?_;cases hb:EZ s x (tH s x)with
  |true=>
   have hi:rE s x=s:=by unfold rE;rw[if_pos hb]
   rw[hi];refine go ?_;subst hv;refine Ay (λc:ak Nat=>[pt b2 (.cells [gv (ay ai).n c s.length]),ap (ay ai) (gv (ay ai).n c s.length) s]) c (h:=?_);exact lE
  |false=>
   have hi:rE s x=kY s (tH s x) x:=by unfold rE;rw[if_neg (by rw[hb];simp)]
   rw[hi];refine go ?_;intro b27;subst hv;refine gC (aq6 (c:=c) (xs:=s) (p:=x) (v:=.slice ax x.length cx) (vb:=b27) (i:=tH s x) VI tf) λc2 _=>?_;refine go ?_;have hlen:(kY s (tH s x) x).length=s.length+1:=Es VI;rw[show Value.slice (some ⟨c2,0,some (ay ai).n⟩) (s.length+1) (s.length+1)=gv (ay ai).n (some c2) (kY s (tH s x) x).length by rw[hlen];rfl];refine Ay (λc:ak Nat=>[pt b2 (.cells [gv (ay ai).n c (kY s (tH s x) x).length]),ap (ay ai) (gv (ay ai).n c (kY s (tH s x) x).length) (kY s (tH s x) x)]) (some c2) (h:=?_);exact Ck () rfl trivial trivial
 .intro r xs hX;have hrun:∀(zs:ae (ah×ae Int)) (ys:ae (ae Int)),kz (λ(ys:ae (ae Int)) (x:ah×ae Int)=>(rE ys x.2,Out.normal)) ys zs=((zs.map (·.2)).foldl rE ys,.normal):=by
   intro zs;induction zs with
   |nil=>intro ys;rfl
   |cons z zs ih=>intro ys;rw[kz];simp only[ih];rfl
  have hX:xs.map (·.2)=uN g:=hX;rw[hrun,hX,show(uN g).foldl rE []=oN g from rfl];dsimp only[List.cons_append,List.nil_append];refine Cj (h:=λc=>?_);cases c with
  |none=>
   dsimp only[gv];refine go ?_;exact Ef none (hv:=rfl) (hp:=trivial) (hk:=tj)
  |some c=>
   dsimp only[gv];refine go ?_;exact Ef (some c) (hv:=rfl) (hp:=trivial) (hk:=tj)
noncomputable def adf:iL:=⟨147,[(.tmp 4),(.tmp 5)],(.seq (kO [kS 4 (.jh (.const vS)),kS 5 (.jh (.const (iV 0)))]) (.seq (.seq (kO [kM 18 0,kS 19 (.bin .lss 3 18 (.const (iV 0))),kM 20 19,kH 21 20 (.mv 0),kH 22 20 (.bin .gtr 3 21 (.const (iV 256))),kS 23 (.pick 20 kT 22)]) (.cond 23 (.seq (kO [kS 4 (.jh (.const vS)),kS 5 (.jh (.const (iV 140)))]) .ret) .skip)) (.seq (kO [kM 24 1,kS 25 (.p9 24),kS 26 (.xK 121 1 24 [vS] 25 25),kS 6 (.new [vS] 143),kN (.store 1 6 26)]) (.seq (.seq (kO [kM 27 1,kS 28 (.p9 27),kS 29 (.mv (.const (iV 0)))]) (.block 0 (.loop (.seq (kO [kS 30 (.bin .lss 3 29 28)]) (.seq (.cond 30 .skip (.exit 0)) (.seq (.block 1 (.seq (kO [kM 31 29,kS 32 (.jv 1 27 29),kS 33 (.fE 32),kS 7 (.jh 31),kS 8 (.jh 33)]) (.seq (kO [kS 34 (.fE 6),kM 35 7,kM 36 0,kS 37 (.xK 4 1 1 [(.bool false)] 36 36),kS 38 (.jv 1 34 35),kN (.store 1 38 37)]) (.seq (kO [kM 39 8,kS 40 (.p9 39),kS 41 (.mv (.const (iV 0)))]) (.block 2 (.loop (.seq (kO [kS 42 (.bin .lss 3 41 40)]) (.seq (.cond 42 .skip (.exit 2)) (.seq (.block 3 (.seq (kO [kS 43 (.jv 1 39 41),kS 44 (.fE 43),kS 10 (.jh 44)]) (.seq (.seq (kO [kM 45 10,kS 46 (.bin .lss 3 45 (.const (iV 0))),kM 47 46,kH 48 47 (.mv 10),kH 49 47 (.mv 0),kH 50 47 (.bin .geq 3 48 49),kS 51 (.pick 47 kT 50),kM 52 51,kH 53 52 (.fE 6),kH 54 52 (.mv 7),kH 55 52 (.jv 1 53 54),kH 56 52 (.fE 55),kH 57 52 (.mv 10),kH 58 52 (.jv 1 56 57),kH 59 52 (.fE 58),kS 60 (.pick 52 kT 59)]) (.cond 60 (.seq (kO [kS 4 (.jh (.const vS)),kS 5 (.jh (.const (iV 140)))]) .ret) .skip)) (kO [kS 61 (.fE 6),kM 62 7,kS 63 (.jv 1 61 62),kS 64 (.fE 63),kM 65 10,kS 66 (.jv 1 64 65),kN (.store 1 66 kT)])))) (kO [kS 67 (.bin .add 3 41 (.const (iV 1))),kM 41 67])))))))))) (kO [kS 68 (.bin .add 3 29 (.const (iV 1))),kM 29 68]))))))) (.seq (.seq (kO [kM 69 1,kS 70 (.p9 69),kS 71 (.mv (.const (iV 0)))]) (.block 4 (.loop (.seq (kO [kS 72 (.bin .lss 3 71 70)]) (.seq (.cond 72 .skip (.exit 4)) (.seq (.block 5 (.seq (kO [kM 73 71,kS 74 (.jv 1 69 71),kS 75 (.fE 74),kS 11 (.new [(iV 0)] 3),kN (.store 1 11 73),kS 12 (.jh 75)]) (.seq (kO [kS 76 (.fE 11),kS 77 (.bin .add 3 76 (.const (iV 1))),kS 13 (.jh 77)]) (.block 6 (.loop (.seq (.seq (kO [kM 78 13,kM 79 1,kS 80 (.p9 79),kS 81 (.bin .lss 3 78 80)]) (.cond 81 .skip (.exit 6))) (.seq (.block 7 (.seq (kO [kM 84 1,kM 85 13,kS 86 (.jv 1 84 85),kS 87 (.fE 86),kS 14 (.jh 87)]) (.seq (.seq (kO [kM 88 12,kS 89 (.p9 88),kS 90 (.bin .eql 3 89 (.const (iV 0))),kM 91 90,kH 92 91 (.mv 12),kH 93 91 (.p9 92),kH 94 91 (.mv 14),kH 95 91 (.p9 94),kH 96 91 (.bin .neq 3 93 95),kS 97 (.pick 91 kT 96),kM 98 97,kH 99 98 (.mv 14),kH 100 98 (.Dy (.func 110) [] [6,11]),kH 101 98 (kC 109 [99,100]),kS 102 (.pick 98 kT 101)]) (.cond 102 (.exit 7) .skip)) (.seq (kO [kM 103 0,kS 104 (.xK 3 1 8 [(iV 0)] 103 103),kS 15 (.jh 104)]) (.seq (.seq (kO [kM 105 15,kS 106 (.p9 105),kS 107 (.mv (.const (iV 0)))]) (.block 8 (.loop (.seq (kO [kS 108 (.bin .lss 3 107 106)]) (.seq (.cond 108 .skip (.exit 8)) (.seq (.block 9 (.seq (kO [kM 109 107,kS 16 (.jh 109)]) (kO [kM 110 15,kM 111 16,kM 112 16,kS 113 (.jv 1 110 111),kN (.store 1 113 112)]))) (kO [kS 114 (.bin .add 3 107 (.const (iV 1))),kM 107 114]))))))) (.seq (.seq (kO [kM 115 12,kS 116 (.p9 115),kS 117 (.mv (.const (iV 0)))]) (.block 10 (.loop (.seq (kO [kS 118 (.bin .lss 3 117 116)]) (.seq (.cond 118 .skip (.exit 10)) (.seq (.block 11 (.seq (kO [kM 119 117,kS 17 (.jh 119)]) (kO [kM 120 15,kM 121 12,kM 122 17,kS 123 (.jv 1 121 122),kS 124 (.fE 123),kM 125 15,kM 126 14,kM 127 17,kS 128 (.jv 1 126 127),kS 129 (.fE 128),kM 130 14,kM 131 17,kS 132 (.jv 1 130 131),kS 133 (.fE 132),kM 134 12,kM 135 17,kS 136 (.jv 1 134 135),kS 137 (.fE 136),kS 138 (.jv 1 120 124),kN (.store 1 138 133),kS 139 (.jv 1 125 129),kN (.store 1 139 137)]))) (kO [kS 140 (.bin .add 3 117 (.const (iV 1))),kM 117 140]))))))) (kO [kM 141 4,kM 142 15,⟨⟨(some 143),none,(.yX 22 1 [vS] [⟨0,⟨1,142⟩⟩])⟩,[]⟩,kS 144 (.append 22 1 24 141 143),kS 4 (.jh 144)]))))))) (kO [kM 82 13,kS 83 (.bin .add 3 82 (.const (iV 1))),kS 13 (.jh 83)])))))))) (kO [kS 145 (.bin .add 3 71 (.const (iV 1))),kM 71 145]))))))) (.seq (kO [kM 146 4,kS 4 (.jh 146),kS 5 (.jh (.const (iV 0)))]) .ret))))))⟩
def arb:lF prog 65=some adf:=th
def mE(n:Nat)(L:ae Int):ae Bool:=(List.range n).map λc:Nat=>decide ((c:Int)∈L)
def KX(n:Nat)(L:ae Int):(mE n L).length=n:=by unfold mE;rw[bC,tV]
variable{c:Nat}{L:ae Int}
def KY(h:c<n):(mE n L)[c]? =some (decide ((c:Int)∈L)):=by
 unfold mE;rw[dZ,yR h];rfl
def arc(h:c<n):(mE n L).set c true=mE n (L++[(c:Int)]):=by
 refine jr λk=>?_;rw[xE,KX];by_cases hk:k<n
 .rw[KY hk];by_cases e:c=k
  .subst e;rw[if_pos rfl,if_pos hk,KY hk];congr 1;exact(dQ (xD _ (bS.2 rfl))).symm
  .rw[if_neg e,KY hk];congr 1;refine qx.2 ?_;rw[eP,bS];exact⟨.inl,λh=>h.elim id λh=>absurd (Int.ofNat.inj h).symm e⟩
 .have e1:(mE n L)[k]? =none:=iJ (by rw[KX];omega);have e2:(mE n (L++[(c:Int)]))[k]? =none:=iJ (by rw[KX];omega);rw[e1,e2,if_neg tf]
def ard(n:Nat):zeros [.bool false] n=(mE n []).map .bool:=by
 have:mE n []=List.replicate n false:=by
  unfold mE;rw[List.eq_replicate_iff];exact⟨by rw[bC,tV],λb hb=>by obtain⟨c,_,rfl⟩:=dM.1 hb;exact aW tg⟩
 rw[this];have key:∀n:Nat,zeros [.bool false] n=(List.replicate n false).map .bool:=by
  intro n;exact rL
 exact key n
variable{b:Nat}
def YK{xs:ae Bool}(h:xs.length=n):qV (pt b (.cells (xs.map .bool))) [aj sJ (.slice (some ⟨b,0,some 0⟩) n n) xs]:=by
 subst h;intro w w' S ⟨h1,h2⟩ hle hh hz g hg;rw[bS.1 hg];refine .inr ⟨b,0,0,_,_,⟨rfl,bI _,.inl rfl⟩,⟨hz b wx,.inl vj⟩,λk x hk=>⟨(),λj u hj=>?_,λf hf=>by cases hf⟩⟩;match j,hj with
 |0,hj=>
  have hj:some (Value.bool x)=some u:=hj;rw[show 0+k*sJ.n+0=k by show 0+k*1+0=k;omega,dZ,hk];exact hj
 |j+1,hj=>cases hj
def Ht(vs:ae ah)(rows:ae (ae Bool)):aM:=⟨λw=>∀(k:Nat) v r,vs[k]? =some v->rows[k]? =some r->(aj sJ v r).p w,λa h k v r h1 h2=>(aj sJ v r).mono a (h k v r h1 h2)⟩
variable{rows:ae (ae Bool)}
def arf{m:Nat}{vs:ae ah}{w:Wd}(h1:(dO b 0 vs).p w)(h2:(Ht vs rows).p w)(hv:vs.length=m)(hr:rows.length=m):(aj (ay sJ) (.slice (some ⟨b,0,some 0⟩) m m) rows).p w:=by
 obtain⟨cells,q1,q2⟩:=h1;subst hr;refine .inr ⟨b,0,0,_,cells,⟨rfl,bI _,.inl rfl⟩,q1,λk r hk=>?_⟩;have hlt:=(bJ.1 hk).1;have hv2:vs[k]? =some (vs[k]'(tf)):=bY _;refine⟨vs[k]'(tf),λj u hj=>?_,λf hf=>by rw[bS.1 hf];exact h2 k _ r hv2 hk⟩;match j,hj with
 |0,hj=>
  have hj:some (vs[k]'(tf))=some u:=hj;have:=q2 k _ hv2;rw[show 0+k*(ay sJ).n+0=0+k by show 0+k*1+0=0+k;omega,this];exact hj
 |j+1,hj=>cases hj
def arh{b1 b2 m:Nat}{vs:ah}{r:ae Bool}{x:Bool}(hr:rows[i]? =some r)(hx:r[c]? =some x):
 UM prog (.func 110) [] [ptr' b1,ptr' b2] (iV (c:Int)) [dO b1 0 [vs],dO b2 0 [iV (i:Int)],aj (ay sJ) vs rows] x:=by
 have hi:=(bJ.1 hr).1;have hc:=(bJ.1 hx).1;refine gB 110 λB w0=>?_;refine gX (ay sJ) (xs:=rows) (k:=i) λ_ _ r2 (vr:ah) hr2=>?_;rw[hr]at hr2;obtain rfl:=Option.some.inj hr2;refine go ?_;intro _ _ x2 hx2;rw[hx]at hx2;obtain rfl:=Option.some.inj hx2;exact gQ () trivial
def lU:ae Int->ae Int->ae Int->ae Int
 |p,x::a,y::b=>lU ((p.set x.toNat y).set y.toNat x) a b
 |p,_,_=>p
def Qh:∀(a b p:ae Int),(lU p a b).length=p.length
 |[],_,p=>by rw[lU];intro x a y b h;cases h
 |x::a,[],p=>by rw[lU];intro x a y b _ h;cases h
 |x::a,y::b,p=>by rw[lU,Qh a b,oU,oU]
def adg:∀(a b p:ae Int) (x y:Int),a.length=b.length->lU p (a++[x]) (b++[y])=((lU p a b).set x.toNat y).set y.toNat x
 |[],[],p,x,y,_=>by simp[lU]
 |[],_::_,_,_,_,h=>by cases h
 |_::_,[],_,_,_,h=>by cases h
 |u::a,v::b,p,x,y,h=>by
  show lU p (u::(a++[x])) (v::(b++[y]))=_;rw[lU,adg a b _ x y tw];rfl
def rV(a b:ae Int):Bool:=!(decide (a.length=0))&&decide (a.length=b.length)&&!(b.any λc=>decide (c∈a))
def Bl(n:Nat)(lists:ae (ae Int))(i:Nat):ae (ae Int):=match lists[i]? with
 |some a=>((lists.drop (i+1)).filter (rV a)).map (lU (upTo' n) a)
 |none=>[]
def mY(n:Nat)(lists:ae (ae Int)):ae (ae Int):=(List.range lists.length).flatMap (Bl n lists)
variable{lists:ae (ae Int)}
def ari:(Bl n lists i).length<=lists.length:=by
 unfold Bl;split
 .rw[bC];refine lV (Ik ..) ?_;rw[uT];omega
 .exact bH _
def VK{n:Nat}{lists:ae (ae Int)}:∀i,((List.range i).flatMap (Bl n lists)).length<=i*lists.length
 |0=>bH _
 |i+1=>by
  rw[Dv,List.flatMap_append,fV,xB,Fw];have h1:=VK (n:=n) (lists:=lists) i;have h2:(List.flatMap (Bl n lists) [i]).length<=lists.length:=by
   rw[List.flatMap_singleton];exact ari
  omega
def VL(hn:n<=256)(hm:lists.length<=4096)(hv:∀l∈lists,mo n l/\l.Nodup)(hb:∀l∈lists,l.length<=1000000):
 bG prog (.func 65) [iV (n:Int),v] [] [] [aj (ay ai) v lists] (λw:ah=>.tuple ⟨[w,iV 0]⟩) (λw=>[ap (ay ai) w (mY n lists)]) (λ_=>[]) (λ_=>True):=by
 refine jD adf arb λB w0=>?_;refine gF (ay ai) v lists λal cl el=>?_;subst el;refine aC ?_ ?_<;>intro h1
 .exfalso;omega
 refine go ?_;refine ym lists.length ⟨tf,tf,tf⟩ λbs=>?_;have hz:zeros [Value.slice none 0 0] lists.length=List.replicate lists.length (.slice none 0 0):=by
  induction lists.length with
  |zero=>rfl
  |succ n ih=>rw[yT,<- ih];rfl
 rw[hz];refine go ?_;intro b6;refine go ?_;refine fo (Ht [] ((lists.take 0).map (mE n))) (λw _ k v r h _=>by cases h) ?_;refine di (λy:Nat×ae ah=>lists.length - y.1) (λy=>[(29,iV (y.1:Int))]) (λy=>[pt bs (.cells (y.2++List.replicate (lists.length - y.1) (.slice none 0 0)))]) (λy=>[Ht y.2 ((lists.take y.1).map (mE n))]) (λy=>y.1<=lists.length/\y.2.length=y.1) (0,[]) ⟨bH _,rfl⟩ (hk:=tj) (body:=?_);rintro⟨i,vs⟩ ⟨hi,hvl⟩;dsimp only at hi hvl⊢;refine aC ?_ ?_<;>intro h2
 .refine gX (ay ai) (xs:=lists) λ_ _ L (vL:ah) hL=>?_;have KZ:=aU hL;obtain⟨hLr,hLn⟩:=hv L KZ;have hLb:=hb L KZ;refine gF ai vL L λaL cL eL=>?_;subst eL;refine go ?_;refine ym n ⟨tf,tf,tf⟩ λbr=>?_;rw[ard];refine go ?_;have hset:(vs++List.replicate (lists.length - i) (Value.slice none 0 0)).set (0+i*1) (.slice (some ⟨br,0,some 0⟩) n n)=(vs++[.slice (some ⟨br,0,some 0⟩) n n])++List.replicate (lists.length - (i+1)) (.slice none 0 0):=by
   rw[Dr _ _ tf,show 0+i*1 - vs.length=0 by omega,show lists.length - i=(lists.length - (i+1))+1 by omega,yT,iO];rfl
  refine l9 (b:=bs) (o:=0+i*1) (cs:=vs++List.replicate (lists.length - i) (.slice none 0 0)) (v:=.slice (some ⟨br,0,some 0⟩) n n) (cs':=(vs++[.slice (some ⟨br,0,some 0⟩) n n])++List.replicate (lists.length - (i+1)) (.slice none 0 0)) hset (by rw[fV,Du];omega) ?_;have hget:((vs++[.slice (some ⟨br,0,some 0⟩) n n])++List.replicate (lists.length - (i+1)) (Value.slice none 0 0))[0+i*1]? =some (.slice (some ⟨br,0,some 0⟩) n n):=by
   rw[pX (by rw[fV,BD];omega),tO tf,show 0+i*1 - vs.length=0 by omega];rfl
  refine go ?_;generalize hcs:(vs++[.slice (some ⟨br,0,some 0⟩) n n])++List.replicate (lists.length - (i+1)) (Value.slice none 0 0)=CS at hget⊢;refine di (λj:Nat=>L.length - j) (λj=>[(41,iV (j:Int))]) (λj=>[pt br (.cells ((mE n (L.take j)).map .bool))]) (λ_=>[]) (λj=>j<=L.length) 0 (bH _) (hk:=tj) (body:=?_);intro j hj;refine aC ?_ ?_<;>intro h3
  .refine go ?_;intro _ _ x hx;have qF:=hLr x (aU hx);obtain⟨cn,rfl⟩:=jK qF.1;have hcn:cn<n:=by omega
   have hnot:((cn:Int))∉L.take j:=λh=>by
    obtain⟨k,hk⟩:=iI h;rw[vZ]at hk;split at hk
    .rename_i hkj;have:=(List.getElem?_inj tf hLn).1 (hk.trans hx.symm);omega
    .cases hk
   refine go ?_;rw[aW (show¬((n:Int)<=(cn:Int))by omega)];refine go ?_;refine rJ (b:=bs) (o:=0+i*1) (cs:=CS) (.slice (some ⟨br,0,some 0⟩) n n) hget ?_;refine go ?_;refine rJ (b:=br) (o:=0+cn*1) (cs:=(mE n (L.take j)).map .bool) (.bool false) (by rw[show 0+cn*1=cn by omega,dZ,KY hcn,aW hnot];rfl) ?_;refine go ?_;refine rJ (b:=bs) (o:=0+i*1) (cs:=CS) (.slice (some ⟨br,0,some 0⟩) n n) hget ?_;refine go ?_;refine l9 (b:=br) (o:=0+cn*1) (cs:=(mE n (L.take j)).map .bool) (v:=.bool true) (cs':=(mE n (L.take (j+1))).map .bool) (by rw[show 0+cn*1=cn by omega,<- wm,arc hcn,bU hx]) (by rw[bC,KX];omega) ?_;exact eI
  obtain rfl:j=L.length:=tf
  rw[bP];refine gZ (YK (KX n L)) ?_;refine go ?_;subst hcs;refine fo (Ht (vs++[.slice (some ⟨br,0,some 0⟩) n n]) ((lists.take (i+1)).map (mE n))) (λw hw k v r hv hr=>?_) ?_
  .rw[bU hL,ek]at hr;have hll:((lists.take i).map (mE n)).length=i:=by rw[bC,gM];omega
   by_cases hk:k<i
   .rw[pX tf]at hv hr;exact hw (Ht vs ((lists.take i).map (mE n))) tg k v r hv hr
   .rw[tO tf]at hv hr;have hk0:k=i:=by
     have:=(bJ.1 hv).1;simp at this;omega
    subst hk0;rw[hvl,tQ]at hv;rw[hll,tQ]at hr;cases hv;cases hr;exact hw (aj sJ (.slice (some ⟨br,0,some 0⟩) n n) (mE n L)) tg
  exact aO (i+1,vs++[.slice (some ⟨br,0,some 0⟩) n n]) C7 ⟨by show i+1<=_;omega,by show(vs++_).length=i+1;rw[fV,hvl];rfl⟩
 obtain rfl:i=lists.length:=tf
 rw[tQ,bP,show List.replicate 0 (Value.slice none 0 0)=[]from rfl,iE];refine gP bs ?_;refine gP b6 ?_;refine fo (aj (ay sJ) (.slice (some ⟨bs,0,some 0⟩) lists.length lists.length) (lists.map (mE n))) (λw hw=>arf (hw (dO bs 0 vs) tg) (hw (Ht vs (lists.map (mE n))) tg) hvl (by rw[bC])) ?_;refine go ?_;refine gK (ay ai) ?_;refine di (λy:Nat×ah×ae (ae Int)=>lists.length - y.1) (λy=>[(71,iV (y.1:Int)),(4,y.2.1)]) (λy=>[ap (ay ai) y.2.1 y.2.2]) (λ_=>[]) (λy=>y.1<=lists.length/\y.2.2=(List.range y.1).flatMap (Bl n lists)) (0,.slice none 0 0,[]) ⟨bH _,rfl⟩ (hk:=tj) (body:=?_);rintro⟨i,v4,ys⟩ ⟨hi,hys⟩;dsimp only at hi hys⊢;refine aC ?_ ?_<;>intro h3
 rotate_left
 .obtain rfl:i=lists.length:=by omega
  refine go ?_;exact gQ v4 trivial (hk:=by rw[hys];exact .cons .here .nil)
 refine gX (ay ai) (xs:=lists) λ_ _ a (va:ah) ha=>?_;have ham:=aU ha;obtain⟨har,han⟩:=hv a ham;have hab:=hb a ham;refine gF ai va a λaa ca ea=>?_;subst ea;refine go ?_;intro b11;refine go ?_;refine gP b11 ?_;have hbase:=VK (n:=n) (lists:=lists) i;rw[<- hys]at hbase;have hmul:i*lists.length<=4096*4096:=Nat.mul_le_mul tf hm;refine di (λy:Nat×ah×ae (ae Int)=>lists.length - y.1) (λy=>[(13,iV (y.1:Int)),(4,y.2.1)]) (λy=>[ap (ay ai) y.2.1 y.2.2]) (λ_=>[]) (λy=>i+1<=y.1/\y.1<=lists.length/\y.2.2=ys++(((lists.drop (i+1)).take (y.1 - (i+1))).filter (rV a)).map (lU (upTo' n) a)) (i+1,v4,ys) ⟨bI _,by show i+1<=_;omega,by show ys=ys++_;rw[tQ,List.take_zero];exact(iE _).symm⟩ (hk:=tj) (body:=?_);rintro⟨k,v5,zs⟩ ⟨hk1,hk2,hzs⟩;dsimp only at hk1 hk2 hzs⊢;refine aC ?_ ?_<;>intro h4
 rotate_left
 .obtain rfl:k=lists.length:=by omega
  refine go ?_;refine aO (i+1,v5,zs) C7 ⟨by show i+1<=_;omega,?_⟩;show zs=(List.range (i+1)).flatMap (Bl n lists);rw[Dv,List.flatMap_append,<- hys,hzs,List.flatMap_singleton,oQ (by rw[uT];omega)];unfold Bl;rw[ha]
 refine gX (ay ai) (xs:=lists) λ_ _ b (vb:ah) hbk=>?_;have FY:=aU hbk;obtain⟨hbr,hbn⟩:=hv b FY;have hbb:=hb b FY;refine gF ai vb b λab cb eb=>?_;subst eb;have hnx:((lists.drop (i+1)).take (k+1 - (i+1))).filter (rV a)=((lists.drop (i+1)).take (k - (i+1))).filter (rV a)++(if rV a b=true then[b]else[]):=by
  have e:(lists.drop (i+1))[k - (i+1)]? =some b:=by rw[rZ,show i+1+(k - (i+1))=k by omega];exact hbk
  rw[show k+1 - (i+1)=(k - (i+1))+1 by omega,bU e,Q0];congr 1;rw[QT];split<;>rfl
 have skip:rV a b=false->zs=ys++(((lists.drop (i+1)).take (k+1 - (i+1))).filter (rV a)).map (lU (upTo' n) a):=λh=>by
  rw[hnx,h,if_neg tg,iE];exact hzs
 refine go ?_;by_cases ha0:((a.length:Int)=0)
 .rw[dQ ha0];have ho:rV a b=false:=by unfold rV;rw[dQ (show a.length=0 by omega)];rfl
  exact de
 rw[aW ha0];refine go ?_;by_cases hne:((a.length:Int)≠(b.length:Int))
 .rw[dQ hne];have ho:rV a b=false:=by unfold rV;rw[aW (show¬a.length=b.length by omega),Bool.and_false];rfl
  exact de
 rw[aW hne];have hlen:a.length=b.length:=tf
 refine gC (anw (fn:=.func 110) (first:=[]) (cap:=[ptr' b6,ptr' b11]) (F1:=[dO b6 0 [.slice (some ⟨bs,0,some 0⟩) lists.length lists.length],dO b11 0 [iV (i:Int)],aj (ay sJ) (.slice (some ⟨bs,0,some 0⟩) lists.length lists.length) (lists.map (mE n))]) (p:=λc=>decide (c∈a)) (va:=.slice ab b.length cb) (xs:=b) tf (λx hx=>by
  have qF:=hbr x hx;obtain⟨cn,rfl⟩:=jK qF.1;exact arh (m:=0) (r:=mE n a) (by rw[dZ,ha];rfl) (KY tf))) λ_ _=>?_
 refine go ?_;cases hany:b.any λc=>decide (c∈a)with
 |true=>
  have ho:rV a b=false:=by unfold rV;rw[hany,Bool.not_true,Bool.and_false]
  exact de
 |false=>
  have ho:rV a b=true:=by unfold rV;rw[hany,aW (show¬a.length=0 by omega),dQ hlen];rfl
  have awY:∀x∈b,x∉a:=λx hx h=>by
   have:=M0.1 hany x hx;exact this (dQ h)
  refine go ?_;refine ym n ⟨tf,tf,tf⟩ λbp=>?_;rw[Hf];refine go ?_;refine di (λj:Nat=>n - j) (λj=>[(107,iV (j:Int))]) (λj=>[pt bp (.cells ((iP (upTo' j) n).map iV))]) (λ_=>[]) (λj=>j<=n) 0 (bH _) (hk:=tj) (body:=?_);intro j hj;have oG:=jH j;refine aC ?_ ?_<;>intro h5
  .refine go ?_;refine l9 (b:=bp) (o:=0+j*1) (cs:=(iP (upTo' j) n).map iV) (v:=iV (j:Int)) (cs':=(iP (upTo' (j+1)) n).map iV) D0 DH ?_;exact eI
  obtain rfl:j=n:=tf
  rw[ET oG];refine go ?_;refine di (λm:Nat=>a.length - m) (λm=>[(117,iV (m:Int))]) (λm=>[pt bp (.cells ((lU (upTo' j) (a.take m) (b.take m)).map iV))]) (λ_=>[]) (λm=>m<=a.length) 0 (bH _) (hk:=tj) (body:=?_);intro m hmm;refine aC ?_ ?_<;>intro h6
  .refine go ?_;intro _ _ x hx _ _ y hy _ _ y2 hy2 _ _ x2 hx2;rw[hy]at hy2;rw[hx]at hx2;obtain rfl:=Option.some.inj hy2;obtain rfl:=Option.some.inj hx2;have qF:=har x (aU hx);have hyr:=hbr y (aU hy);obtain⟨xn,rfl⟩:=jK qF.1;obtain⟨yn,rfl⟩:=jK hyr.1;have hrl:(lU (upTo' j) (a.take m) (b.take m)).length=j:=by rw[Qh,oG]
   have hsn:lU (upTo' j) (a.take (m+1)) (b.take (m+1))=((lU (upTo' j) (a.take m) (b.take m)).set xn (yn:Int)).set yn (xn:Int):=by
    rw[bU hx,bU hy,adg _ _ _ _ _ (by rw[gM,gM];omega)];rfl
   refine go ?_;refine l9 (b:=bp) (o:=0+xn*1) (cs:=(lU (upTo' j) (a.take m) (b.take m)).map iV) (v:=iV (yn:Int)) (cs':=((lU (upTo' j) (a.take m) (b.take m)).set xn (yn:Int)).map iV) (by rw[show 0+xn*1=xn by omega,wm]) (by rw[bC,hrl];omega) ?_;refine go ?_;refine l9 (b:=bp) (o:=0+yn*1) (cs:=((lU (upTo' j) (a.take m) (b.take m)).set xn (yn:Int)).map iV) (v:=iV (xn:Int)) (cs':=(lU (upTo' j) (a.take (m+1)) (b.take (m+1))).map iV) (by rw[hsn,show 0+yn*1=yn by omega,<- wm]) (by rw[bC,oU,hrl];omega) ?_;refine go ?_;exact aO (m+1) tf tf
  obtain rfl:m=a.length:=tf
  rw[bP,oQ (by omega:b.length<=a.length)];have hrl:(lU (upTo' j) a b).length=j:=by rw[Qh,oG]
  refine gZ (zm (b:=bp) (f:=0) (c:=j) (xs:=lU (upTo' j) a b) (hc:=tf)) ?_;rw[hrl];refine go ?_;intro awZ;have hzl:zs.length<=4096*4096+4096:=by
   rw[hzs,fV,bC];have h7:((((lists.drop (i+1)).take (k - (i+1))).filter (rV a))).length<=lists.length:=lV (Ik ..) (by rw[gM,uT];omega);omega
  refine fJ (ay ai) (v:=v5) (xs:=zs) (lU (upTo' j) a b) (.slice (some ⟨bp,0,some 0⟩) j j) (cs:=[.slice (some ⟨bp,0,some 0⟩) j j]) tf (next:=λv6=>?_);refine go ?_;refine aO (k+1,.slice v6 (zs.length+1) (zs.length+1),zs++[lU (upTo' j) a b]) (by show lists.length - (k+1)<lists.length - k;omega) ⟨by show i+1<=k+1;omega,by show k+1<=_;omega,?_⟩;show zs++[lU (upTo' j) a b]=ys++_;rw[hnx,ho,if_pos rfl,ek,<- iO,<- hzs];rfl
