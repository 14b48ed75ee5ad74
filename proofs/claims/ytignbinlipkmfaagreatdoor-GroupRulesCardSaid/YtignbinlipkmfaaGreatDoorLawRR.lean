/- Part. -/
import Derived.Test.YtignbinlipkmfaaGreatDoorLibACR
import Derived.Test.YtignbinlipkmfaaGreatDoorSaneHR
set_option linter.all false
set_option maxRecDepth 10000
set_option maxHeartbeats 4000000
namespace Go.Proofs.YtignbinlipkmfaaGreatDoor
open Go.Ideal Kd Canon
variable{k:aZ}{i:Nat}{r:bE}
theorem afL(hr:k.decl.rules[i]? =some r)(h:vP k.decl):vP (qo k.decl i):=by
 obtain⟨A,B,e1,e2⟩:=adZ hr;have hl:(qo k.decl i).rules.length<=k.decl.rules.length:=by rw[e1,e2];simp
 exact⟨⟨h.s.dK,h.s.regs,h.s.jS,lV hl h.s.lH,λr hr=>h.s.uF r (HY r hr),h.s.holes,h.s.uG⟩,h.w,h.h,h.holes⟩
theorem avc(hr:k.decl.rules[i]? =some r)(h:rA k):rA (nP k i):=⟨afL hr h.d,h.g,h.aR,h.lists⟩
variable{vh vs vr vc vu:ah}
theorem avd(hS:rA k)(hK:dz k)(hr:k.decl.rules[i]? =some r)(hc:r.aS<0):
 bG Tryz.prog (.func 26) [.agg ⟨iD k.decl vh vs vr vc vu⟩] [] [] [aj ai vh k.decl.holes,aj fG vs k.decl.symbols,aj fw vr k.decl.regions,aj bZ vc k.decl.aQ,aj bi vu (k.decl.rules.take i++k.decl.rules.drop (i+1))]
  (λy:PR=>.tuple ⟨[.agg ⟨og (nP k i) vh vs vr y.vc y.vu y.gh y.gc y.vn y.vl⟩,iV 0]⟩) (λ_=>[]) (λy=>[aj bZ y.vc (nP k i).decl.aQ,aj bi y.vu (nP k i).decl.rules,aj ai y.gh (nP k i).grid.holes,aj ai y.gc (nP k i).grid.cells,aj (ay ai) y.vn (nP k i).aR,aj (ay (ay ai)) y.vl (nP k i).lists]) (λ_=>True):=λB w s=>by
 have e:=ad4 hK hr hc;refine .jP _ (ab4 (d:=qo k.decl i) (afL hr hS.d) B w s) ?_;rintro r0 pm h' ⟨h1,w',⟨ok,e0,v1,v2,v3,v4,v5,v6⟩,e1,st,e2,hy⟩;cases ok with
 |false=>exact absurd (ad3 hK hr hc) (hy.2 rfl).2
 |true=>
 obtain rfl:e0=0:=(hy.1 rfl).1;exact⟨h1,w',⟨true,0,v1,v2,v3,v4,v5,v6⟩,e1,by rw[<- e];exact st,by rw[<- e];exact e2,trivial⟩
theorem afM{P:Prop}(h:P:=by
 refine fD (adz (k:=k) (vu:=.slice au k.decl.rules.length cu) hS) (next:=λy1 hy1=>?_);obtain⟨g1,g2,G,cl,e1⟩:=y1;dsimp only at hy1⊢;refine gF (ay ai) g1 G λd1 f1 ee1=>?_;subst ee1;refine gF ai g2 cl λd2 f2 ee2=>?_;subst ee2;refine go ?_;intro b15;refine gC (adz (k:=k2) hS2) λy2 hy2=>?_;obtain⟨g3,g4,H,lc,e2⟩:=y2;dsimp only at hy2⊢;refine gF (ay ai) g3 H λd3 f3 ee3=>?_;subst ee3;refine gF ai g4 lc λd4 f4 ee4=>?_;subst ee4;refine go ?_;intro b17;refine go ?_;rcases hy1.err hK with he1|he1
 rotate_left
 .subst he1;rcases hy2.err hK2 with he2|he2
  .subst he2;exact fQ
  .subst he2;exact fQ
 subst he1;rcases hy2.err hK2 with he2|he2
 rotate_left
 .subst he2;exact fQ
 subst he2;have hg1:=hy1.grk rfl;have hg2:=hy2.grk rfl;have hL:=avi hy1 hy2;have hcl:=hg1.CJ.len;have ND:=hg2.CJ.len;rw[hsy2]at ND;obtain⟨q1,_,hp1,hm1⟩:=hy1.Ql rfl;obtain⟨q2,_,hp2,hm2⟩:=hy2.Ql rfl;have hl1:=hp1.length_eq;have hl2:=hp2.length_eq;have hG0:0<G.length:=WI hg1.CO.one;have hHl:∀x∈H,x.length<2^63:=λx hx=>by
  have:=(hg2.CO.perm x hx).len;have:=hK2.EE;omega
 have hGl:∀x∈G,x.length<2^63:=λx hx=>by
  have:=(hg1.CO.perm x hx).len;omega
 rw[hcl,ND];refine gH ?_ ?_<;>intro z1
 rotate_left
 .exfalso;omega
 refine go ?_;refine(cZ rfl rfl (Ea rfl rfl tf)).h ?_;rw[show((H.length:Int)).tmod (G.length:Int)=((H.length%G.length:Nat):Int)from(Int.ofNat_tmod H.length G.length).symm,hL.mod];refine aC ?_ ?_<;>intro z2
 .exact absurd rfl z2
 refine gN G.length 169 (λj=>j<=G.length) (bH _) ?_;intro j hj;refine aC ?_ ?_<;>intro z3
 .refine gX (ay ai) (xs:=G) (k:=j) λ_ _ p (vp:ah) hp=>?_;have hpm:=aU hp;refine gC (atD (xs:=H) (p:=p) (hy2.ord rfl) tf hHl (hGl p hpm)) λy hy=>?_;obtain⟨n,b⟩:=y;obtain rfl:b=true:=hy.2.2 (hL.sub p hpm);refine go ?_;exact aO (j+1) tf tf
 refine gN k.decl.symbols.length 186 (λj=>j<=k.decl.symbols.length) (bH _) ?_;intro j hj;refine aC ?_ ?_<;>intro z3
 rotate_left
 .exact fQ
 refine gN j 190 (λi=>i<=j) (bH _) ?_;intro i' hi';refine aC ?_ ?_<;>intro z4
 rotate_left
 .exact eI
 refine go ?_;have hcc:=hcls hg1 hg2 j i' tf tf;intro _ _ x1 hx1 _ _ x2 hx2;rw[mU hx1,mU hx2]at hcc;refine gH ?_ ?_<;>intro z5
 .exact sA
 refine go ?_;intro _ _ u1 hu1 _ _ u2 hu2;have hcc:=hcc z5;rw[mU hu1,mU hu2]at hcc;refine aC ?_ ?_<;>intro z6
 .exact absurd hcc z6
 exact sA):P:=h
theorem avl{a:Int}{s t:ae Int}{gh gc vn vl sc st:ah}(hB:He k)(hs:s.length<2^63)(ht:t.length<2^63):
 dF Tryz.prog 7 [.agg ⟨og k vh vs vr vc vu gh gc vn vl⟩,iV a,.agg ⟨[sc,st]⟩] (Oz 6::aj ai sc s::aj ai st t::j6 k vh vs vr vc vu gh gc vn vl []) (.bool true):=by
 refine gB 7 λB w0=>?_;dsimp only[j6];refine gF bi vu k.decl.rules λau cu eu=>?_;subst eu;refine go ?_;intro b3 b5;refine gC avb λ_ _=>?_;refine gC (atA (k:=k) (vu:=.slice au k.decl.rules.length cu) hB) λb hb=>?_;cases b with
 |false=>
  exact fQ
 |true=>
 obtain⟨oh,hn16,hm4⟩:=hb rfl;clear hb;have hS:=rA.ofE hB oh;refine gC (atB (s:=s) (t:=t) (sc:=sc) (st:=st)) λb hb=>?_;cases b with
 |false=>
  exact fQ
 |true=>
 obtain⟨axa,axb⟩:=hb rfl;clear hb;refine gC (atw (k:=k) (vu:=.slice au k.decl.rules.length cu) hS) λb hb=>?_;cases b with
 |false=>
  dsimp only[cond];exact fQ
 |true=>
 have hK:=hb.1 rfl;clear hb;dsimp only[cond];refine aC ?_ ?_<;>intro h1
 .exact fQ
 have hu:=hK.typ.lim.u;have hx0:0<k.decl.rules.length:=tf
 refine go ?_;obtain⟨nu,hnu⟩:=atC a;refine(cZ rfl rfl (zw (k:=.u64) (m:=(nu:Int)) (by kernel_rfl:Tryz.prog.underlying 3=some (.int .i64)) th rfl hnu)).h ?_;refine go ?_;refine(cZ rfl rfl (zw (k:=.u64) (m:=(k.decl.rules.length:Int)) (by kernel_rfl:Tryz.prog.underlying 3=some (.int .i64)) th rfl (Ty tf))).h ?_;refine go ?_;refine(cZ rfl rfl (al0 (a:=nu) (b:=k.decl.rules.length) rfl rfl hx0)).h ?_;refine go ?_;have hil:nu%k.decl.rules.length<k.decl.rules.length:=zX _ hx0;refine(cZ rfl rfl (zw (k:=.i64) (m:=((nu%k.decl.rules.length:Nat):Int)) (by kernel_rfl:Tryz.prog.underlying 53=some (.int .u64)) th rfl (wrapN tf))).h ?_;generalize nu%k.decl.rules.length=i at *;clear hnu;refine gX bi (xs:=k.decl.rules) (k:=i) λ_ _ r (w:ah×ah) hr=>?_;refine aC ?_ ?_<;>intro h2
 .exact fQ
 have hc:r.aS<0:=tf
 refine go ?_;intro b8;refine go ?_;intro b66;refine go ?_;refine akx bi (xs:=k.decl.rules) i tf (next:=λa1 c1=>?_);refine go ?_;refine aky bi (xs:=k.decl.rules) (i+1) tf (next:=λa2 c2=>?_) (hlo:=rfl);refine go ?_;refine Gx bi (.slice a1 i c1) (xs:=k.decl.rules.take i) λy1 e1=>?_;refine Gx bi (.slice a2 (k.decl.rules.length - (i+1)) c2) (xs:=k.decl.rules.drop (i+1)) λy2 e2=>?_;refine Om (E:=bi) (v:=.slice a1 i c1) (aD:=y1) ?_;refine Om (E:=bi) (v:=.slice a2 (k.decl.rules.length - (i+1)) c2) (aD:=y2) ?_;have l1:y1.length=i:=by rw[<- bC (f:=λp:bE×bi.Y=>p.1),e1,gM];omega
 have l2:y2.length=k.decl.rules.length - (i+1):=by rw[<- bC (f:=λp:bE×bi.Y=>p.1),e2,uT]
 refine aaj (b:=b66) (f:=0) (m:=0) bi [] y1 rfl (.inl rfl) ⟨tf,tf,tf⟩ (λb6 f6 m6 hm6 hf6=>?_) (hk:=aB.here);rw[dP]at hm6⊢;refine go ?_;refine aaj (b:=b6) (f:=f6) (m:=m6) bi y1 y2 hm6 hf6 ⟨tf,tf,tf⟩ (λb7 f7 m7 hm7 hf7=>?_);have hmap:(y1++y2).map (·.1)=k.decl.rules.take i++k.decl.rules.drop (i+1):=by rw[ek,e1,e2]
 subst hm7;rw[show dx bi (y1++y2)=dx bi (y1++y2)++[]from(iE _).symm];refine alX bi (aD:=y1++y2) hf7 (bI _) ?_ (λw hw=>?_)
 rotate_left
 .intro q hq f hf;rcases eP.1 hq with hq|hq
  .exact hw (wP bi y1) tg q hq f hf
  .exact hw (wP bi y2) tg q hq f hf
 rw[hmap];refine gC (avd (k:=k) (i:=i) (vu:=.slice (some ⟨b7,0,some f7⟩) (y1++y2).length (y1++y2).length) hS hK hr hc) λy _=>?_;obtain⟨_,_,vc',vu',gh',gc',vn',rT⟩:=y;dsimp only[List.cons_append,List.nil_append];refine fo (aj ai vh (nP k i).decl.holes) (λw hw=>hw (aj ai vh k.decl.holes) tg) ?_;refine fo (aj fG vs (nP k i).decl.symbols) (λw hw=>hw (aj fG vs k.decl.symbols) tg) ?_;refine fo (aj fw vr (nP k i).decl.regions) (λw hw=>hw (aj fw vr k.decl.regions) tg) ?_;have hS2:=avc hr hS;have hK2:=atG hK hr hc;have hkeep:iQ k s t->iQ (nP k i) s t:=ad5;have avi:∀{G H:ae (ae Int)} {cl lc:ae Int},K4 k G cl 0->K4 (nP k i) H lc 0->ad7 k.grid.cells.length G H:=λh h2=>atL h h2 rfl rfl;have hcls:∀{G H:ae (ae Int)} {cl lc:ae Int},C8 k G cl->C8 (nP k i) H lc->∀a b:Nat,a<k.decl.symbols.length->b<k.decl.symbols.length->aV cl (a:Int)=aV cl (b:Int)->aV lc (a:Int)=aV lc (b:Int):=λh h2 a b ha hb e=>atN h h2 ha hb e;have hsy2:(nP k i).decl.symbols.length=k.decl.symbols.length:=rfl;generalize nP k i=k2 at *;refine go ?_;intro b9;refine gC (acP (k:=k) (s:=s) (t:=t) (vu:=.slice au k.decl.rules.length cu) (sc:=sc) (st:=st) hS hs ht) λy hy=>?_;obtain⟨x,e⟩:=y;obtain⟨he,hx⟩:=hy.ok hK;dsimp only at he hx;subst he;clear hy;refine gC (acP (k:=k2) (s:=s) (t:=t) (sc:=sc) (st:=st) hS2 hs ht) λy hy=>?_;obtain⟨x2,e⟩:=y;obtain⟨he,hx2⟩:=hy.ok hK2;dsimp only at he hx2;subst he;clear hy;have Jd:x=true->x2=true:=λe=>hx2.2 (hkeep (hx.1 e));refine go ?_;cases x with
 |false=>
  refine go ?_;exact afM
 |true=>
  obtain rfl:x2=true:=Jd rfl;refine go ?_;exact afM
