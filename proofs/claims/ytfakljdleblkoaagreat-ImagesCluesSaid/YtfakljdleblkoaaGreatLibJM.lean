/-
  Meaning: the lists of a rule, one after the other.
-/
import Derived.Test.YtfakljdleblkoaaGreatLibIM
set_option linter.all false
set_option maxRecDepth 10000
set_option maxHeartbeats 4000000
namespace Go.Proofs.YtfakljdleblkoaaGreat
open Go.Ideal Kd Canon
abbrev lK(k:aU)(vh vs vr vc vu gh gc vn vl vp vg vv:Value):List Value:=[.string k.decl.name,.int .i64 k.decl.version,.int .i64 k.decl.shape,.int .i64 k.decl.w,.int .i64 k.decl.h,vh,vs,vr,vc,vu,.int .i64 k.grid.shape,.int .i64 k.grid.w,.int .i64 k.grid.h,gh,gc,vn,vl,vp,vg,vv]
def gu(k:aU):List Int:=k.decl.symbols.map (·.value)
theorem look_ok{k:aU}{p:List Clue}{grid:List Int}{vh vs vr vc vu gh gc vn vl vp vg:Value}(hsl:k.decl.symbols.length<=4096):
 aQ Tryz.prog (.func 52) [.agg ⟨kG k vh vs vr vc vu gh gc vn vl⟩,.agg ⟨[vp]⟩,vg] [] [] [ah ae vg grid,ah jF vs k.decl.symbols] (λvv:Value=>.agg ⟨lK k vh vs vr vc vu gh gc vn vl vp vg vv⟩) (λ_=>[]) (λvv=>[ah ae vv (gu k)]) (λ_=>True):=by
 refine aK _ (aM 52) λB w0=>?_;refine bY (E:=ae) (v:=vg) (xs:=grid) (by simp) λag cg eg=>?_;subst eg;refine bY (E:=jF) (v:=vs) (xs:=k.decl.symbols) (by simp) λzY cs1 es1=>?_;subst es1;refine go ?_;intro b3 b4 b6 b7;refine go ?_;refine lY ae ?_;refine bQ (λy:Nat×Value=>k.decl.symbols.length - y.1) (λy=>[(18,.int .i64 (y.1:Int))]) (λy=>[pt b7 (.cells (lK k vh (.slice zY k.decl.symbols.length cs1) vr vc vu gh gc vn vl vp (.slice ag grid.length cg) y.2)),ap ae y.2 ((k.decl.symbols.take y.1).map (·.value))]) (λ_=>[]) (λy=>y.1<=k.decl.symbols.length) (0,.slice none 0 0) (dK _) (hk:=by repeat (first|exact aO.nil|(apply aO.cons;(focus (repeat (first|exact az.here|apply az.there)))))) (body:=?_);rintro⟨j,vv⟩ hj;dsimp only at hj⊢;have hjl:((k.decl.symbols.take j).map (·.value)).length=j:=by rw[bJ,iL];omega
 refine go ?_;refine aJ rfl (λh1=>?_) (λh1=>?_)
 ·refine go ?_;refine bZ jF (xs:=k.decl.symbols) (next:=λ_ _ s (_:Unit) hs=>?_);have htk:(k.decl.symbols.take (j+1)).map (·.value)=(k.decl.symbols.take j).map (·.value)++[s.value]:=by rw[gZ hs,di,j5]
  refine go ?_;intro b9;refine go ?_;intro b26;refine go ?_;refine jO (xs:=(k.decl.symbols.take j).map (·.value)) ae s.value () (by omega) (next:=λad=>?_);rw[<- htk];refine go ?_;exact bi (j+1,.slice ad (((k.decl.symbols.take j).map (·.value)).length+1) (((k.decl.symbols.take j).map (·.value)).length+1)) (by show k.decl.symbols.length - (j+1)<k.decl.symbols.length - j;omega) (by show j+1<=_;omega)
 have iM:j=k.decl.symbols.length:=by omega
 subst iM;rw[eH,show k.decl.symbols.map (·.value)=gu k from rfl];refine aZ (jk (E:=ae) (v:=vv) (xs:=gu k)) (h:=?_);refine go ?_;exact aj vv (hv:=rfl) (hp:=trivial)
theorem ajH{k:aU}{r:bV}{vh vs vr vc vu gh gc vn vl vp vg vv v1 v2:Value}:
 aQ Tryz.prog (.func 152) [.agg ⟨lK k vh vs vr vc vu gh gc vn vl vp vg vv⟩,.agg ⟨jG r v1 v2⟩] [] [] [] (λy:Nat×Nat=>.func (.func 215) #[] #[ptr' y.1,ptr' y.2]) (λ_=>[])
  (λy=>[bz y.1 0 (jG r v1 v2),bz y.2 0 (lK k vh vs vr vc vu gh gc vn vl vp vg vv)]) (λ_=>True):=by
 refine aK _ (aM 152) λB w0=>?_;refine go ?_;intro b2 b3;refine go ?_;refine aZ (dH (b:=b2)) (h:=?_);refine aZ (dH (b:=b3)) (h:=?_);exact aj (b3,b2) (hv:=rfl) (hp:=trivial)
structure Gp(k:aU)(r:bV):Prop where
 fP:0<=r.family/\r.family<k.lists.length
 aN:r.aN<k.decl.bI.length
theorem ajI{br bv:Nat}{k:aU}{p:List Clue}{r:bV}{vh vs vr vc vu gh gc vn vl vp vg vv v1 v2:Value}(hS:mR k)(hP:oW p)(hF:F4 k)(hr:Gp k r)(hp:∀g∈p,kY k g):
 JL Tryz.prog J9 F5 (.func 215) [] [ptr' br,ptr' bv] [bz br 0 (jG r v1 v2),bz bv 0 (lK k vh vs vr vc vu gh gc vn vl vp vg vv),ah (aB (aB ae)) vl k.lists,ah dX vc k.decl.bI,ah bG vp p] (λxs=>xs.map mQ=fV k p r):=by
 intro S inv ok step s0 ny y1 y2 F' h0 hok hy;have hpl:=hP.len;obtain⟨hf0,hf1⟩:=hr.fP;rw[bX,bX,bX,bX,bX,bH];refine aK _ (aM 215) λB w0=>?_;by_cases hneg:r.aN<0
 ·obtain⟨fi,hfi⟩:=eO hf0;have K3:r.family.toNat=fi:=by omega
  have hrl:fV k p r=(k.lists.getD r.family.toNat []).map λl=>(l,[r.n]):=by unfold fV;rw[if_pos hneg]
  refine go ?_;refine aJ rfl (λh1=>?_) (λh1=>?_)
  rotate_left
  ·exact absurd hneg h1
  refine go ?_;rw[hfi];refine bZ (aB (aB ae)) (xs:=k.lists) (next:=λ_ _ ls (Yk:Value) hls=>?_);have hll:=(hS.lists.2 ls (aR hls)).1;have hrl:fV k p r=ls.map λl=>(l,[r.n]):=by rw[hrl,K3,fC hls]
  clear hneg h1;refine go ?_;refine bQ (λy:Nat×List EA×S=>ls.length - y.1) (λy=>[(19,.int .i64 (y.1:Int))]) (λy=>inv y.2.2) (λ_=>[]) (λy=>y.1<=ls.length/\ok y.2.1 y.2.2/\y.2.1.map mQ=((ls.take y.1).map λl=>(l,[r.n]))/\∀rest,bS step s0 (y.2.1++rest)=bS step y.2.2 rest) (0,[],s0) ⟨dK _,h0,rfl,λ_=>rfl⟩ (body:=?_);rintro⟨j,dx,s⟩ ⟨hj,hos,jT,hrun⟩;dsimp only at hj hos jT hrun⊢;refine go ?_;refine aJ rfl (λh1=>?_) (λh1=>?_)
  ·refine go ?_;refine bZ (aB ae) (xs:=ls) (next:=λ_ _ ps (yD:Value) hps=>?_);refine go ?_;intro BI;refine aZ (A:=pt BI (.cells [.int .i64 r.n])) (fs:=[ah ae (.slice (some ⟨BI,0,some 0⟩) 1 1) [r.n]]) (uX (b:=BI) (f:=0) (c:=1) (xs:=[r.n])) (h:=?_);have hnx:(ls.take (j+1)).map (λl=>(l,[r.n]))=(ls.take j).map (λl=>(l,[r.n]))++[mQ ((ps,yD),([r.n],.slice (some ⟨BI,0,some 0⟩) 1 1))]:=by rw[gZ hps,di,j5];rfl
   generalize hxd:(((ps,yD),([r.n],Value.slice (some ⟨BI,0,some 0⟩) 1 1)):EA)=x at hnx;have hX:(dx++x::pad ((ls.drop (j+1)).map λl=>(l,[r.n]))).map mQ=fV k p r:=by
    rw[di,fI,Wm,jT,hrl];conv=>rhs;rw[<- mM (j+1) ls,di,hnx]
    rw[ed];rfl
   have gJ:=hy _ s _ _ hos hX;rw[show J9 x=[yD,.slice (some ⟨BI,0,some 0⟩) 1 1]by rw[<- hxd];rfl,show F5 x=[ah ae yD ps,ah ae (.slice (some ⟨BI,0,some 0⟩) 1 1) [r.n]]by rw[<- hxd];rfl]at gJ;rw[bX,bX,bH]at gJ;refine go ?_;refine ak gJ (next:=λ_ _=>?_);cases hst:(step s x).2 with
   |true=>
    have hs1:step s x=((step s x).1,true):=Prod.ext rfl hst;refine go ?_;refine bi (j+1,dx++[x],(step s x).1) (by show ls.length - (j+1)<ls.length - j;omega) ⟨by show j+1<=_;omega,hok _ s _ _ hos hX hst,?_,λrest=>?_⟩
    ·show(dx++[x]).map mQ=_;rw[di,j5,jT];exact hnx.symm
    ·show bS step s0 (dx++[x]++rest)=_;rw[ed,hrun];show bS step s (x::rest)=_;rw[bS,hs1]
   |false=>
    have hs1:step s x=((step s x).1,false):=Prod.ext rfl hst;have hr:=hrun (x::pad ((ls.drop (j+1)).map λl=>(l,[r.n])));rw[bS,hs1]at hr;dsimp only at hr;refine go ?_;exact aj (dx++x::pad ((ls.drop (j+1)).map λl=>(l,[r.n]))) (hv:=rfl) (hp:=hX) (hk:=by rw[hr];first|exact aO.all _|exact aO.self _ _)
  have iM:j=ls.length:=by omega
  subst iM;rw[eH,<- hrl]at jT;have hr2:=hrun [];rw[iK]at hr2;refine go ?_;exact aj dx (hv:=rfl) (hp:=jT) (hk:=by rw[hr2];exact aO.all _)
 ·obtain⟨ci,hci⟩:=eO (show 0<=r.aN by omega);have hcl:=hr.aN;have hcc:k.decl.bI[r.aN.toNat]? =some (k.decl.bI[r.aN.toNat]'(by omega)):=bC _;generalize k.decl.bI[r.aN.toNat]'(by omega)=c at hcc;have hrl:fV k p r=(p.filter λg=>decide (g.aN=r.aN)).map λg=>(jv k g,g.values):=by unfold fV;rw[if_neg hneg]
  refine afs dX 6 rfl hcc λb o f cc yc ec=>?_;subst ec;rw[show dX.fs c yc=[]from rfl,bH,show dX.pat c yc=KJ c from rfl];refine afr (b:=bv) 17 (ds:=[vp,vg,vv]) rfl ?_;refine go ?_;refine aJ rfl (λh1=>?_) (λh1=>?_)
  ·exact absurd h1 hneg
  clear h1;refine go ?_;refine bQ (λy:Nat×List EA×S=>p.length - y.1) (λy=>[(35,.int .i64 (y.1:Int))]) (λy=>inv y.2.2) (λ_=>[]) (λy=>y.1<=p.length/\ok y.2.1 y.2.2/\y.2.1.map mQ=(((p.take y.1).filter λg=>decide (g.aN=r.aN)).map λg=>(jv k g,g.values))/\∀rest,bS step s0 (y.2.1++rest)=bS step y.2.2 rest) (0,[],s0) ⟨dK _,h0,rfl,λ_=>rfl⟩ (body:=?_);rintro⟨j,dx,s⟩ ⟨hj,hos,jT,hrun⟩;dsimp only at hj hos jT hrun⊢;refine go ?_;refine aJ rfl (λh1=>?_) (λh1=>?_)
  ·refine go ?_;refine bZ bG (xs:=p) (next:=λ_ _ g (K4:Value) hg=>?_);have hgm:=aR hg;obtain⟨c2,ls,ps,q1,q2,q3,q4,q5,q6,q7⟩:=(hp g hgm).cells;have htk:(p.take (j+1)).filter (λg=>decide (g.aN=r.aN))=(p.take j).filter (λg=>decide (g.aN=r.aN))++(if g.aN=r.aN then[g]else[]):=by
    rw[gZ hg,Al];by_cases e:g.aN=r.aN
    ·rw[if_pos e];simp[e]
    ·rw[if_neg e];simp[e]
   refine go ?_;intro b7;refine go ?_;refine gG (λh2=>?_) (λh2=>?_)
   ·rw[if_neg h2,iK]at htk;refine go ?_;exact bi (j+1,dx,s) (by show p.length - (j+1)<p.length - j;omega) ⟨by show j+1<=_;omega,hos,by show dx.map mQ=_;rw[jT,htk],hrun⟩
   rw[if_pos h2]at htk;have e1:c2=c:=by
    rw[h2,hcc]at q1;exact(Option.some.inj q1).symm
   subst e1;obtain⟨hf2,hf3⟩:=hF c2 (aR hcc);obtain⟨fi,hfi⟩:=eO hf2;obtain⟨ai,hai⟩:=eO q5;rw[show c2.family.toNat=fi by omega]at q2;rw[show g.at_.toNat=ai by omega]at q3;refine go ?_;refine bZ (aB (aB ae)) (xs:=k.lists) (k:=fi) (hi:=by show Value.int .i64 c2.family=_;rw[hfi]) (next:=λ_ _ ls2 (Yk:Value) hls=>?_);rw[q2]at hls;obtain rfl:ls=ls2:=Option.some.inj hls;refine go ?_;refine bZ (aB ae) (xs:=ls) (k:=ai) (hi:=by show Value.int .i64 g.at_=_;rw[hai]) (next:=λ_ _ ps2 (yD:Value) hps=>?_);rw[q3]at hps;obtain rfl:ps=ps2:=Option.some.inj hps;have hnx:((p.take (j+1)).filter λg=>decide (g.aN=r.aN)).map (λg=>(jv k g,g.values))=(((p.take j).filter λg=>decide (g.aN=r.aN)).map λg=>(jv k g,g.values))++[mQ ((ps,yD),(g.values,K4))]:=by rw[htk,di,j5,q7];rfl
   generalize hxd:(((ps,yD),(g.values,K4)):EA)=x at hnx;have hX:(dx++x::pad (((p.drop (j+1)).filter λg=>decide (g.aN=r.aN)).map λg=>(jv k g,g.values))).map mQ=fV k p r:=by
    rw[di,fI,Wm,jT,hrl];conv=>rhs;rw[<- mM (j+1) p,Al,di,hnx]
    rw[ed];rfl
   have gJ:=hy _ s _ _ hos hX;rw[show J9 x=[yD,K4]by rw[<- hxd];rfl,show F5 x=[ah ae yD ps,ah ae K4 g.values]by rw[<- hxd];rfl]at gJ;rw[bX,bX,bH]at gJ;refine go ?_;refine ak gJ (next:=λ_ _=>?_);cases hst:(step s x).2 with
   |true=>
    have hs1:step s x=((step s x).1,true):=Prod.ext rfl hst;refine go ?_;refine bi (j+1,dx++[x],(step s x).1) (by show p.length - (j+1)<p.length - j;omega) ⟨by show j+1<=_;omega,hok _ s _ _ hos hX hst,?_,λrest=>?_⟩
    ·show(dx++[x]).map mQ=_;rw[di,j5,jT];exact hnx.symm
    ·show bS step s0 (dx++[x]++rest)=_;rw[ed,hrun];show bS step s (x::rest)=_;rw[bS,hs1]
   |false=>
    have hs1:step s x=((step s x).1,false):=Prod.ext rfl hst;have hr:=hrun (x::pad (((p.drop (j+1)).filter λg=>decide (g.aN=r.aN)).map λg=>(jv k g,g.values)));rw[bS,hs1]at hr;dsimp only at hr;refine go ?_;exact aj (dx++x::pad (((p.drop (j+1)).filter λg=>decide (g.aN=r.aN)).map λg=>(jv k g,g.values))) (hv:=rfl) (hp:=hX) (hk:=by rw[hr];first|exact aO.all _|exact aO.self _ _)
  have iM:j=p.length:=by omega
  subst iM;rw[eH,<- hrl]at jT;have hr2:=hrun [];rw[iK]at hr2;refine go ?_;exact aj dx (hv:=rfl) (hp:=jT) (hk:=by rw[hr2];exact aO.all _)
abbrev BJ(P:Program)(fn:Fn)(first cap:List Value)(F:List aD)(c:List Int×List Int->Bool)(x:List Int×List Int):Prop:=
 ∀v1 v2:Value,aQ P fn (first++[v1,v2]) cap [] (ah ae v1 x.1::ah ae v2 x.2::F) (λ_:Unit=>.bool (c x)) (λ_=>[]) (λ_=>[]) (λ_=>True)
theorem D6{k:aU}{p:List Clue}{r:bV}{vh vs vr vc vu gh gc vn vl vp vg vv v1 v2:Value}{fn:Fn}{first cap:List Value}{F1:List aD}{c:List Int×List Int->Bool}(hS:mR k)(hP:oW p)(hF:F4 k)(hr:Gp k r)(hp:∀g∈p,kY k g)
 (hc:∀x∈fV k p r,BJ Tryz.prog fn first cap F1 c x):
 aQ Tryz.prog (.func 86) [.agg ⟨lK k vh vs vr vc vu gh gc vn vl vp vg vv⟩,.agg ⟨jG r v1 v2⟩,.func fn ⟨first⟩ ⟨cap⟩] [] [] (ah (aB (aB ae)) vl k.lists::ah dX vc k.decl.bI::ah bG vp p::F1) (λ_:Unit=>.bool ((fV k p r).all c)) (λ_=>[]) (λ_=>[]) (λ_=>True):=by
 refine zG _ (aM 86) λB w0=>?_;refine go ?_;intro b3 b4 b5 b6;refine aZ (dH (b:=b5)) (h:=?_);refine go ?_;refine ak (ajH (k:=k) (r:=r) (vh:=vh) (vs:=vs) (vr:=vr) (vc:=vc) (vu:=vu) (gh:=gh) (gc:=gc) (vn:=vn) (vl:=vl) (vp:=vp) (vg:=vg) (vv:=vv) (v1:=v1) (v2:=v2)) (next:=λy _=>?_);dsimp only[List.cons_append,List.nil_append];refine go ?_;refine VD (Z:=Nat) (λ(u:Unit) (x:EA)=>(u,cond (c (mQ x)) Out.normal Out.ret)) (λ_=>[pt b6 (.cells [.bool false])]) (λ_ _=>True) () _ (λ_ _=>[]) trivial (λ_ _ _ _ _ _ _=>trivial) (ajI (br:=y.1) (bv:=y.2) (k:=k) (p:=p) (r:=r) (vh:=vh) (vs:=vs) (vr:=vr) (vc:=vc) (vu:=vu) (gh:=gh) (gc:=gc) (vn:=vn) (vl:=vl) (vp:=vp) (vg:=vg) (vv:=vv) (v1:=v1) (v2:=v2) hS hP hF hr hp) (by intro s x lo o B w0;dsimp only[J9,F5,List.cons_append,List.nil_append,List.zip_cons_cons,List.zip_nil_left,List.reverse_cons,List.reverse_nil];refine go ?_;have z0:Nat:=0;exact Bj z0 rfl) ?_ ?_ ?_
 ·intro dx s x rest z lo L B w0 _ hX;have hx:mQ x∈fV k p r:=by rw[<- hX];exact cZ.2 ⟨x,by simp,rfl⟩
  have hcx:=hc _ hx x.1.2 x.2.2;dsimp only[mQ]at hcx⊢;dsimp only[F5,List.cons_append,List.nil_append];refine go ?_;refine ak hcx (next:=λ_ _=>?_);cases hcb:c (x.1.1,x.2.1)with
  |true=>
   refine go ?_;exact qQ () rfl trivial trivial
  |false=>
   refine go ?_;exact qQ () rfl trivial trivial
 ·intro rr xs hX;have hrun:∀zs:List EA,(fM (λ(u:Unit) (x:EA)=>(u,cond (c (mQ x)) Out.normal Out.ret)) () zs)=((),cond ((zs.map mQ).all c) Out.normal Out.ret):=by
   intro zs;induction zs with
   |nil=>rfl
   |cons z zs ih=>
    rw[fM,fI,Em];cases hz:c (mQ z)with
    |true=>
     rw[LD];exact ih
    |false=>rfl
  rw[hrun,hX];dsimp only[List.cons_append,List.nil_append];cases hall:(fV k p r).all c with
  |true=>
   dsimp only[cond];refine go ?_;exact u7 () (hv:=rfl) (hp:=trivial)
  |false=>
   dsimp only[cond];refine go ?_;exact u7 () (hv:=rfl) (hp:=trivial)
 ·intro s x;show tY (cond (c (mQ x)) Out.normal Out.ret);cases c (mQ x)<;>trivial
theorem Yp{n op b:Int}:eG Tryz.prog 91 [.int .i64 n,.int .i64 op,.int .i64 b] [] (.bool (F6 n op b)):=by
 refine aK _ (aM 91) λB w0=>?_;refine go ?_;iterate 9 (all_goals (first
  |(refine aj () (hv:=?_) (hp:=trivial);first
   |exact congrArg Value.bool (by unfold F6;simp_all;done)
   |exact congrArg Value.bool (by unfold F6;(try simp only[*]);simp<;>omega))
  |(refine go ?_;first
   |with_reducible refine Jh (λ_=>?_) (λ_=>?_)
   |with_reducible refine Ji (λ_=>?_) (λ_=>?_)
   |with_reducible refine C9 (λ_=>?_) (λ_=>?_)
   |skip)))
theorem Yq{n:Nat}(hn:n<=1000000):aQ Tryz.prog (.func 114) [.int .i64 (n:Int)] [] [] [] (λv:Value=>v) (λ_=>[]) (λv=>[ah ae v (upTo' n)]) (λ_=>True):=by
 refine aK _ (aM 114) λB w0=>?_;refine go ?_;refine lY ae ?_;refine bQ (λy:Nat×Value=>n - y.1) (λy=>[(5,.int .i64 (y.1:Int)),(2,y.2)]) (λy=>[ap ae y.2 (upTo' y.1)]) (λ_=>[]) (λy=>y.1<=n) (0,.slice none 0 0) (dK _) (hk:=by repeat (first|exact aO.nil|(apply aO.cons;(focus (repeat (first|exact az.here|apply az.there)))))) (body:=?_);rintro⟨i,v⟩ hi;dsimp only at hi⊢;have hil:=wI i;refine go ?_;refine aJ rfl (λh2=>?_) (λh2=>?_)
 ·refine go ?_;intro b10;refine go ?_;refine jO (xs:=upTo' i) ae (i:Int) () (by omega) (next:=λad=>?_);rw[<- OU];refine go ?_;exact bi (i+1,.slice ad ((upTo' i).length+1) ((upTo' i).length+1)) (by show n - (i+1)<n - i;omega) (by show i+1<=_;omega)
 have hie:i=n:=by omega
 subst hie;refine aZ (jk (E:=ae) (v:=v) (xs:=upTo' i)) (h:=?_);refine go ?_;exact aj v (hv:=rfl) (hp:=trivial)
abbrev BK(P:Program)(fn:Fn)(first cap:List Value)(F:List aD)(c:Int->Int->Bool)(a b:Int):Prop:=
 aQ P fn (first++[.int .i64 a,.int .i64 b]) cap [] F (λ_:Unit=>.bool (c a b)) (λ_=>[]) (λ_=>[]) (λ_=>True)
theorem Qw{k:aU}{grid:List Int}{vh vs vr vc vu gh gc vn vl vp vg vv:Value}{fn:Fn}{first cap:List Value}{F1:List aD}{c:Int->Int->Bool}(hn:k.aA.length<=grid.length)(hg:grid.length<=1000000)(hnb:∀l∈k.aA,l.length<9223372036854775808/\∀b∈l,0<=b/\b<grid.length)
 (hc:∀a∈grid,∀b∈grid,BK Tryz.prog fn first cap F1 c a b):
 aQ Tryz.prog (.func 104) [.agg ⟨lK k vh vs vr vc vu gh gc vn vl vp vg vv⟩,.func fn ⟨first⟩ ⟨cap⟩] [] [] (ah (aB ae) vn k.aA::ah ae vg grid::F1) (λ_:Unit=>.bool (nU k.aA grid c)) (λ_=>[]) (λ_=>[]) (λ_=>True):=by
 refine aK _ (aM 104) λB w0=>?_;refine bY (E:=aB ae) (v:=vn) (xs:=k.aA) (by simp) λan cn en=>?_;subst en;refine bY (E:=ae) (v:=vg) (xs:=grid) (by simp) λag cg eg=>?_;subst eg;refine go ?_;intro b2;refine go ?_;refine bQ (λj:Nat=>k.aA.length - j) (λj=>[(13,.int .i64 (j:Int))]) (λ_=>[]) (λ_=>[]) (λj=>j<=k.aA.length/\nU (k.aA.take j) grid c=true) 0 ⟨dK _,rfl⟩ (body:=?_);rintro j ⟨hj,hall⟩;refine go ?_;refine aJ rfl (λh1=>?_) (λh1=>?_)
 ·refine go ?_;refine bZ (aB ae) (xs:=k.aA) (next:=λ_ _ l (uA:Value) hl=>?_);obtain⟨hll,hlb⟩:=hnb l (aR hl);refine go ?_;refine bQ (λi:Nat=>l.length - i) (λi=>[(20,.int .i64 (i:Int))]) (λ_=>[]) (λ_=>[]) (λi=>i<=l.length/\((l.take i).all λb=>c (aP grid (j:Int)) (aP grid b))=true) 0 ⟨dK _,rfl⟩ (body:=?_);rintro i ⟨hi,rz⟩;refine go ?_;refine aJ rfl (λh2=>?_) (λh2=>?_)
  ·refine go ?_;intro _ _ b hb;obtain⟨hb0,hb1⟩:=hlb b (aR hb);obtain⟨bn,rfl⟩:=eO hb0;refine go ?_;intro _ _ x hx _ _ y hy;have hcx:=hc x (aR hx) y (aR hy);have hxg:=jJ hx;have hyg:=jJ hy;refine go ?_;refine ak hcx (next:=λ_ _=>?_);cases hcb:c x y with
   |false=>
    have MK:nU k.aA grid c=false:=agq hl hb (by rw[hxg,hyg];exact hcb);refine go ?_;refine aj () (hv:=?_) (hp:=trivial);rw[MK];rfl
   |true=>
    refine go ?_;refine bi (i+1) (by show l.length - (i+1)<l.length - i;omega) ⟨by omega,?_⟩;rw[gZ hb,List.all_append,rz,Em,List.all_nil,hxg,hyg,hcb];rfl
  have hie:i=l.length:=by omega
  subst hie;rw[eH]at rz;refine go ?_;refine bi (j+1) (by show k.aA.length - (j+1)<k.aA.length - j;omega) ⟨by omega,?_⟩;rw[agp hl,hall,rz];rfl
 have iM:j=k.aA.length:=by omega
 subst iM;rw[eH]at hall;refine go ?_;refine aj () (hv:=?_) (hp:=trivial);rw[hall];rfl
