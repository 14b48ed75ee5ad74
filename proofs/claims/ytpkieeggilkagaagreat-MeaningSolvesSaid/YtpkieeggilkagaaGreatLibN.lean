/-
  Meaning: the lists of a rule, one after the other.
-/
import Derived.Test.YtpkieeggilkagaaGreatLibM
import Derived.Test.YtpkieeggilkagaaGreatPlainC
set_option linter.unusedSimpArgs false
set_option linter.unusedVariables false
set_option maxRecDepth 10000
set_option maxHeartbeats 4000000
namespace Go.Proofs.YtpkieeggilkagaaGreat
open Go.Ideal Kd Canon
abbrev vwL(k:Knd)(vh vs vr vc vu gh gc vn vl vp vg vv:Value):List Value:=[.string k.decl.name,.int .i64 k.decl.version,.int .i64 k.decl.shape,.int .i64 k.decl.w,.int .i64 k.decl.h,vh,vs,vr,vc,vu,.int .i64 k.grid.shape,.int .i64 k.grid.w,.int .i64 k.grid.h,gh,gc,vn,vl,vp,vg,vv]
def zh(k:Knd):List Int:=k.decl.symbols.map (·.value)
theorem look_ok{k:Knd}{p:List zm}{grid:List Int}{vh vs vr vc vu gh gc vn vl vp vg:Value}(hsl:k.decl.symbols.length≤4096):
 FnC Tryz.prog (.func 35) [.agg ⟨zFl k vh vs vr vc vu gh gc vn vl⟩,.agg ⟨[vp]⟩,vg] [] [] [fSl intE vg grid,fSl zET vs k.decl.symbols] (fun vv:Value=>.agg ⟨vwL k vh vs vr vc vu gh gc vn vl vp vg vv⟩) (fun _=>[]) (fun vv=>[fSl intE vv (zh k)]) (fun _=>True):=by
 refine zE _ (isC 35) fun B w0=>?_;refine zR (E:=intE) (v:=vg) (xs:=grid) (by simp) fun ag cg eg=>?_;subst eg;refine zR (E:=zET) (v:=vs) (xs:=k.decl.symbols) (by simp) fun as1 cs1 es1=>?_;subst es1;refine go ?_;intro b3 b4 b6 b7;refine go ?_;refine zAd intE ?_;refine zH (fun y:Nat×Value=>k.decl.symbols.length - y.1) (fun y=>[(18,.int .i64 (y.1:Int))]) (fun y=>[pt b7 (.cells (vwL k vh (.slice as1 k.decl.symbols.length cs1) vr vc vu gh gc vn vl vp (.slice ag grid.length cg) y.2)),ap intE y.2 ((k.decl.symbols.take y.1).map (·.value))]) (fun _=>[]) (fun y=>y.1≤k.decl.symbols.length) (0,.slice none 0 0) (Nat.zero_le _) (hk:=by repeat (first|exact SelL.nil|(apply SelL.cons;(focus (repeat (first|exact Sel.here|apply Sel.there)))))) (body:=?_);rintro⟨j,vv⟩ hj;dsimp only at hj⊢;have hjl:((k.decl.symbols.take j).map (·.value)).length=j:=by rw[List.length_map,List.length_take];omega
 refine go ?_;refine if_d rfl (fun h1=>?_) (fun h1=>?_)
 ·refine go ?_;refine zV zET (xs:=k.decl.symbols) (next:=fun _ _ s (_:Unit) hs=>?_);have htk:(k.decl.symbols.take (j+1)).map (·.value)=(k.decl.symbols.take j).map (·.value)++[s.value]:=by rw[zP hs,List.map_append,List.map_singleton]
  refine go ?_;intro b9;refine go ?_;intro b26;refine go ?_;refine zAv (xs:=(k.decl.symbols.take j).map (·.value)) intE s.value () (by omega) (next:=fun ad=>?_);rw[← htk];refine go ?_;exact zB (j+1,.slice ad (((k.decl.symbols.take j).map (·.value)).length+1) (((k.decl.symbols.take j).map (·.value)).length+1)) (by show k.decl.symbols.length - (j+1)<k.decl.symbols.length - j;omega) (by show j+1≤_;omega)
 have hje:j=k.decl.symbols.length:=by omega
 subst hje;rw[List.take_length,show k.decl.symbols.map (·.value)=zh k from rfl];refine zK (z5 (E:=intE) (v:=vv) (xs:=zh k)) (h:=?_);refine go ?_;exact q_fin vv (hv:=rfl) (hp:=trivial)
theorem zNr{k:Knd}{r:Rul}{vh vs vr vc vu gh gc vn vl vp vg vv v1 v2:Value}:
 FnC Tryz.prog (.func 129) [.agg ⟨vwL k vh vs vr vc vu gh gc vn vl vp vg vv⟩,.agg ⟨zCG r v1 v2⟩] [] [] [] (fun y:Nat×Nat=>.func (.func 177) #[] #[ptr' y.1,ptr' y.2]) (fun _=>[])
  (fun y=>[fRaw y.1 0 (zCG r v1 v2),fRaw y.2 0 (vwL k vh vs vr vc vu gh gc vn vl vp vg vv)]) (fun _=>True):=by
 refine zE _ (isC 129) fun B w0=>?_;refine go ?_;intro b2 b3;refine go ?_;refine zK (zN (b:=b2)) (h:=?_);refine zK (zN (b:=b3)) (h:=?_);exact q_fin (b3,b2) (hv:=rfl) (hp:=trivial)
structure zNo(k:Knd)(r:Rul):Prop where
 fam:0≤r.family∧r.family<k.lists.length
 clue:r.clue<k.decl.clues.length
theorem zLD{br bv:Nat}{k:Knd}{p:List zm}{r:Rul}{vh vs vr vc vu gh gc vn vl vp vg vv v1 v2:Value}(hS:zHH k)(hP:zLH p)(hF:zLv k)(hr:zNo k r)(hp:∀g∈p,zCL k g):
 zOy Tryz.prog eaV eaF (.func 177) [] [ptr' br,ptr' bv] [fRaw br 0 (zCG r v1 v2),fRaw bv 0 (vwL k vh vs vr vc vu gh gc vn vl vp vg vv),fSl (slE (slE intE)) vl k.lists,fSl zAS vc k.decl.clues,fSl gvnE vp p] (fun xs=>xs.map prj=rlsOf k p r):=by
 intro S inv ok step s0 yfn y1 y2 F' h0 hok hy;have hpl:=hP.len;obtain⟨hf0,hf1⟩:=hr.fam;rw[List.cons_append,List.cons_append,List.cons_append,List.cons_append,List.cons_append,List.nil_append];refine zE _ (isC 177) fun B w0=>?_;by_cases hneg:r.clue<0
 ·obtain⟨fi,hfi⟩:=Int.eq_ofNat_of_zero_le hf0;have hftn:r.family.toNat=fi:=by omega
  have hrl:rlsOf k p r=(k.lists.getD r.family.toNat []).map fun l=>(l,[r.n]):=by unfold rlsOf;rw[if_pos hneg]
  refine go ?_;refine if_d rfl (fun h1=>?_) (fun h1=>?_)
  rotate_left
  ·exact absurd hneg h1
  refine go ?_;rw[hfi];refine zV (slE (slE intE)) (xs:=k.lists) (next:=fun _ _ ls (vls:Value) hls=>?_);have hll:=(hS.lists.2 ls (List.mem_of_getElem? hls)).1;have hrl:rlsOf k p r=ls.map fun l=>(l,[r.n]):=by rw[hrl,hftn,zAl hls]
  clear hneg h1;refine go ?_;refine zH (fun y:Nat×List EA×S=>ls.length - y.1) (fun y=>[(19,.int .i64 (y.1:Int))]) (fun y=>inv y.2.2) (fun _=>[]) (fun y=>y.1≤ls.length∧ok y.2.1 y.2.2∧y.2.1.map prj=((ls.take y.1).map fun l=>(l,[r.n]))∧∀rest,zAf step s0 (y.2.1++rest)=zAf step y.2.2 rest) (0,[],s0) ⟨Nat.zero_le _,h0,rfl,fun _=>rfl⟩ (body:=?_);rintro⟨j,vis,s⟩ ⟨hj,hos,hvis,hrun⟩;dsimp only at hj hos hvis hrun⊢;refine go ?_;refine if_d rfl (fun h1=>?_) (fun h1=>?_)
  ·refine go ?_;refine zV (slE intE) (xs:=ls) (next:=fun _ _ ps (vps:Value) hps=>?_);refine go ?_;intro b27;refine zK (A:=pt b27 (.cells [.int .i64 r.n])) (fs:=[fSl intE (.slice (some ⟨b27,0,some 0⟩) 1 1) [r.n]]) (zCm (b:=b27) (f:=0) (c:=1) (xs:=[r.n])) (h:=?_);have hnx:(ls.take (j+1)).map (fun l=>(l,[r.n]))=(ls.take j).map (fun l=>(l,[r.n]))++[prj ((ps,vps),([r.n],.slice (some ⟨b27,0,some 0⟩) 1 1))]:=by rw[zP hps,List.map_append,List.map_singleton];rfl
   generalize hxd:(((ps,vps),([r.n],Value.slice (some ⟨b27,0,some 0⟩) 1 1)):EA)=x at hnx;have hX:(vis++x::pad ((ls.drop (j+1)).map fun l=>(l,[r.n]))).map prj=rlsOf k p r:=by
    rw[List.map_append,List.map_cons,zLZ,hvis,hrl];conv=>rhs;rw[← List.take_append_drop (j+1) ls,List.map_append,hnx]
    rw[List.append_assoc];rfl
   have hyy:=hy _ s _ _ hos hX;rw[show eaV x=[vps,.slice (some ⟨b27,0,some 0⟩) 1 1]by rw[← hxd];rfl,show eaF x=[fSl intE vps ps,fSl intE (.slice (some ⟨b27,0,some 0⟩) 1 1) [r.n]]by rw[← hxd];rfl]at hyy;rw[List.cons_append,List.cons_append,List.nil_append]at hyy;refine go ?_;refine zA hyy (next:=fun _ _=>?_);cases hst:(step s x).2 with
   |true=>
    have hs1:step s x=((step s x).1,true):=Prod.ext rfl hst;refine go ?_;refine zB (j+1,vis++[x],(step s x).1) (by show ls.length - (j+1)<ls.length - j;omega) ⟨by show j+1≤_;omega,hok _ s _ _ hos hX hst,?_,fun rest=>?_⟩
    ·show(vis++[x]).map prj=_;rw[List.map_append,List.map_singleton,hvis];exact hnx.symm
    ·show zAf step s0 (vis++[x]++rest)=_;rw[List.append_assoc,hrun];show zAf step s (x::rest)=_;rw[zAf,hs1]
   |false=>
    have hs1:step s x=((step s x).1,false):=Prod.ext rfl hst;have hr:=hrun (x::pad ((ls.drop (j+1)).map fun l=>(l,[r.n])));rw[zAf,hs1]at hr;dsimp only at hr;refine go ?_;exact q_fin (vis++x::pad ((ls.drop (j+1)).map fun l=>(l,[r.n]))) (hv:=rfl) (hp:=hX) (hk:=by rw[hr];first|exact SelL.all _|exact SelL.self _ _)
  have hje:j=ls.length:=by omega
  subst hje;rw[List.take_length,← hrl]at hvis;have hr2:=hrun [];rw[List.append_nil]at hr2;refine go ?_;exact q_fin vis (hv:=rfl) (hp:=hvis) (hk:=by rw[hr2];exact SelL.all _)
 ·obtain⟨ci,hci⟩:=Int.eq_ofNat_of_zero_le (show 0≤r.clue by omega);have hcl:=hr.clue;have hcc:k.decl.clues[r.clue.toNat]? =some (k.decl.clues[r.clue.toNat]'(by omega)):=List.getElem?_eq_getElem _;generalize k.decl.clues[r.clue.toNat]'(by omega)=c at hcc;have hrl:rlsOf k p r=(p.filter fun g=>decide (g.clue=r.clue)).map fun g=>(cellsAt k g,g.values):=by unfold rlsOf;rw[if_neg hneg]
  refine zST zAS 6 rfl hcc fun b o f cc yc ec=>?_;subst ec;rw[show zAS.fs c yc=[]from rfl,List.nil_append,show zAS.pat c yc=zTg c from rfl];refine zTx (b:=bv) 17 (ds:=[vp,vg,vv]) rfl ?_;refine go ?_;refine if_d rfl (fun h1=>?_) (fun h1=>?_)
  ·exact absurd h1 hneg
  clear h1;refine go ?_;refine zH (fun y:Nat×List EA×S=>p.length - y.1) (fun y=>[(35,.int .i64 (y.1:Int))]) (fun y=>inv y.2.2) (fun _=>[]) (fun y=>y.1≤p.length∧ok y.2.1 y.2.2∧y.2.1.map prj=(((p.take y.1).filter fun g=>decide (g.clue=r.clue)).map fun g=>(cellsAt k g,g.values))∧∀rest,zAf step s0 (y.2.1++rest)=zAf step y.2.2 rest) (0,[],s0) ⟨Nat.zero_le _,h0,rfl,fun _=>rfl⟩ (body:=?_);rintro⟨j,vis,s⟩ ⟨hj,hos,hvis,hrun⟩;dsimp only at hj hos hvis hrun⊢;refine go ?_;refine if_d rfl (fun h1=>?_) (fun h1=>?_)
  ·refine go ?_;refine zV gvnE (xs:=p) (next:=fun _ _ g (vgs:Value) hg=>?_);have hgm:=List.mem_of_getElem? hg;obtain⟨c2,ls,ps,q1,q2,q3,q4,q5,q6,q7⟩:=(hp g hgm).cells;have htk:(p.take (j+1)).filter (fun g=>decide (g.clue=r.clue))=(p.take j).filter (fun g=>decide (g.clue=r.clue))++(if g.clue=r.clue then[g]else[]):=by
    rw[zP hg,List.filter_append];by_cases e:g.clue=r.clue
    ·rw[if_pos e];simp[e]
    ·rw[if_neg e];simp[e]
   refine go ?_;intro b7;refine go ?_;first|with_reducible refine g_d (fun h2=>?_) (fun h2=>?_)|with_reducible refine g_n (fun h2=>?_) (fun h2=>?_)|with_reducible refine g_b (fun h2=>?_) (fun h2=>?_)
   ·rw[if_neg h2,List.append_nil]at htk;refine go ?_;exact zB (j+1,vis,s) (by show p.length - (j+1)<p.length - j;omega) ⟨by show j+1≤_;omega,hos,by show vis.map prj=_;rw[hvis,htk],hrun⟩
   rw[if_pos h2]at htk;have e1:c2=c:=by
    rw[h2,hcc]at q1;exact(Option.some.inj q1).symm
   subst e1;obtain⟨hf2,hf3⟩:=hF c2 (List.mem_of_getElem? hcc);obtain⟨fi,hfi⟩:=Int.eq_ofNat_of_zero_le hf2;obtain⟨ai,hai⟩:=Int.eq_ofNat_of_zero_le q5;rw[show c2.family.toNat=fi by omega]at q2;rw[show g.at_.toNat=ai by omega]at q3;refine go ?_;refine zV (slE (slE intE)) (xs:=k.lists) (k:=fi) (hi:=by show Value.int .i64 c2.family=_;rw[hfi]) (next:=fun _ _ ls2 (vls:Value) hls=>?_);rw[q2]at hls;obtain rfl:ls=ls2:=Option.some.inj hls;refine go ?_;refine zV (slE intE) (xs:=ls) (k:=ai) (hi:=by show Value.int .i64 g.at_=_;rw[hai]) (next:=fun _ _ ps2 (vps:Value) hps=>?_);rw[q3]at hps;obtain rfl:ps=ps2:=Option.some.inj hps;have hnx:((p.take (j+1)).filter fun g=>decide (g.clue=r.clue)).map (fun g=>(cellsAt k g,g.values))=(((p.take j).filter fun g=>decide (g.clue=r.clue)).map fun g=>(cellsAt k g,g.values))++[prj ((ps,vps),(g.values,vgs))]:=by rw[htk,List.map_append,List.map_singleton,q7];rfl
   generalize hxd:(((ps,vps),(g.values,vgs)):EA)=x at hnx;have hX:(vis++x::pad (((p.drop (j+1)).filter fun g=>decide (g.clue=r.clue)).map fun g=>(cellsAt k g,g.values))).map prj=rlsOf k p r:=by
    rw[List.map_append,List.map_cons,zLZ,hvis,hrl];conv=>rhs;rw[← List.take_append_drop (j+1) p,List.filter_append,List.map_append,hnx]
    rw[List.append_assoc];rfl
   have hyy:=hy _ s _ _ hos hX;rw[show eaV x=[vps,vgs]by rw[← hxd];rfl,show eaF x=[fSl intE vps ps,fSl intE vgs g.values]by rw[← hxd];rfl]at hyy;rw[List.cons_append,List.cons_append,List.nil_append]at hyy;refine go ?_;refine zA hyy (next:=fun _ _=>?_);cases hst:(step s x).2 with
   |true=>
    have hs1:step s x=((step s x).1,true):=Prod.ext rfl hst;refine go ?_;refine zB (j+1,vis++[x],(step s x).1) (by show p.length - (j+1)<p.length - j;omega) ⟨by show j+1≤_;omega,hok _ s _ _ hos hX hst,?_,fun rest=>?_⟩
    ·show(vis++[x]).map prj=_;rw[List.map_append,List.map_singleton,hvis];exact hnx.symm
    ·show zAf step s0 (vis++[x]++rest)=_;rw[List.append_assoc,hrun];show zAf step s (x::rest)=_;rw[zAf,hs1]
   |false=>
    have hs1:step s x=((step s x).1,false):=Prod.ext rfl hst;have hr:=hrun (x::pad (((p.drop (j+1)).filter fun g=>decide (g.clue=r.clue)).map fun g=>(cellsAt k g,g.values)));rw[zAf,hs1]at hr;dsimp only at hr;refine go ?_;exact q_fin (vis++x::pad (((p.drop (j+1)).filter fun g=>decide (g.clue=r.clue)).map fun g=>(cellsAt k g,g.values))) (hv:=rfl) (hp:=hX) (hk:=by rw[hr];first|exact SelL.all _|exact SelL.self _ _)
  have hje:j=p.length:=by omega
  subst hje;rw[List.take_length,← hrl]at hvis;have hr2:=hrun [];rw[List.append_nil]at hr2;refine go ?_;exact q_fin vis (hv:=rfl) (hp:=hvis) (hk:=by rw[hr2];exact SelL.all _)
end Go.Proofs.YtpkieeggilkagaaGreat
namespace Go.Proofs.YtpkieeggilkagaaGreat
open Go.Ideal Kd Canon
abbrev FnE(P:Program)(fn:Fn)(first cap:List Value)(F:List zJ)(c:List Int×List Int→Bool)(x:List Int×List Int):Prop:=
 ∀v1 v2:Value,FnC P fn (first++[v1,v2]) cap [] (fSl intE v1 x.1::fSl intE v2 x.2::F) (fun _:Unit=>.bool (c x)) (fun _=>[]) (fun _=>[]) (fun _=>True)
theorem zCp{k:Knd}{p:List zm}{r:Rul}{vh vs vr vc vu gh gc vn vl vp vg vv v1 v2:Value}{fn:Fn}{first cap:List Value}{F1:List zJ}{c:List Int×List Int→Bool}(hS:zHH k)(hP:zLH p)(hF:zLv k)(hr:zNo k r)(hp:∀g∈p,zCL k g)
 (hc:∀x∈rlsOf k p r,FnE Tryz.prog fn first cap F1 c x):
 FnC Tryz.prog (.func 58) [.agg ⟨vwL k vh vs vr vc vu gh gc vn vl vp vg vv⟩,.agg ⟨zCG r v1 v2⟩,.func fn ⟨first⟩ ⟨cap⟩] [] [] (fSl (slE (slE intE)) vl k.lists::fSl zAS vc k.decl.clues::fSl gvnE vp p::F1) (fun _:Unit=>.bool ((rlsOf k p r).all c)) (fun _=>[]) (fun _=>[]) (fun _=>True):=by
 refine zFV _ (isC 58) fun B w0=>?_;refine go ?_;intro b3 b4 b5 b6;refine zK (zN (b:=b5)) (h:=?_);refine go ?_;refine zA (zNr (k:=k) (r:=r) (vh:=vh) (vs:=vs) (vr:=vr) (vc:=vc) (vu:=vu) (gh:=gh) (gc:=gc) (vn:=vn) (vl:=vl) (vp:=vp) (vg:=vg) (vv:=vv) (v1:=v1) (v2:=v2)) (next:=fun y _=>?_);dsimp only[List.cons_append,List.nil_append];refine go ?_;refine zLa (Z:=Nat) (fun(u:Unit) (x:EA)=>(u,cond (c (prj x)) Out.normal Out.ret)) (fun _=>[pt b6 (.cells [.bool false])]) (fun _ _=>True) () _ (fun _ _=>[]) trivial (fun _ _ _ _ _ _ _=>trivial) (zLD (br:=y.1) (bv:=y.2) (k:=k) (p:=p) (r:=r) (vh:=vh) (vs:=vs) (vr:=vr) (vc:=vc) (vu:=vu) (gh:=gh) (gc:=gc) (vn:=vn) (vl:=vl) (vp:=vp) (vg:=vg) (vv:=vv) (v1:=v1) (v2:=v2) hS hP hF hr hp) (by intro s x lo o B w0;dsimp only[eaV,eaF,List.cons_append,List.nil_append,List.zip_cons_cons,List.zip_nil_left,List.reverse_cons,List.reverse_nil];refine go ?_;have z0:Nat:=0;exact asgZ_end z0 rfl) ?_ ?_ ?_
 ·intro vis s x rest z lo L B w0 _ hX;have hx:prj x∈rlsOf k p r:=by rw[← hX];exact List.mem_map.2 ⟨x,by simp,rfl⟩
  have hcx:=hc _ hx x.1.2 x.2.2;dsimp only[prj]at hcx⊢;dsimp only[eaF,List.cons_append,List.nil_append];refine go ?_;refine zA hcx (next:=fun _ _=>?_);cases hcb:c (x.1.1,x.2.1)with
  |true=>
   refine go ?_;exact zBp () rfl trivial trivial
  |false=>
   refine go ?_;exact zBp () rfl trivial trivial
 ·intro rr xs hX;have hrun:∀zs:List EA,(zBu (fun(u:Unit) (x:EA)=>(u,cond (c (prj x)) Out.normal Out.ret)) () zs)=((),cond ((zs.map prj).all c) Out.normal Out.ret):=by
   intro zs;induction zs with
   |nil=>rfl
   |cons z zs ih=>
    rw[zBu,List.map_cons,List.all_cons];cases hz:c (prj z)with
    |true=>
     rw[Bool.true_and];exact ih
    |false=>rfl
  rw[hrun,hX];dsimp only[List.cons_append,List.nil_append];cases hall:(rlsOf k p r).all c with
  |true=>
   dsimp only[cond];refine go ?_;exact zEZ () (hv:=rfl) (hp:=trivial)
  |false=>
   dsimp only[cond];refine go ?_;exact zEZ () (hv:=rfl) (hp:=trivial)
 ·intro s x;show zFp (cond (c (prj x)) Out.normal Out.ret);cases c (prj x)<;>trivial
end Go.Proofs.YtpkieeggilkagaaGreat
namespace Go.Proofs.YtpkieeggilkagaaGreat
open Go.Ideal Kd Canon
theorem zKB{n op b:Int}:FnP Tryz.prog 63 [.int .i64 n,.int .i64 op,.int .i64 b] [] (.bool (obB n op b)):=by
 refine zE _ (isC 63) fun B w0=>?_;refine go ?_;iterate 9 (all_goals (first
  |(refine q_fin () (hv:=?_) (hp:=trivial);first
   |exact congrArg Value.bool (by unfold obB;simp_all;done)
   |exact congrArg Value.bool (by unfold obB;(try simp only[*]);simp<;>omega))
  |(refine go ?_;first
   |with_reducible refine g_d (fun _=>?_) (fun _=>?_)
   |with_reducible refine g_n (fun _=>?_) (fun _=>?_)
   |with_reducible refine g_b (fun _=>?_) (fun _=>?_)
   |skip)))
theorem zMS{n:Nat}(hn:n≤1000000):FnC Tryz.prog (.func 87) [.int .i64 (n:Int)] [] [] [] (fun v:Value=>v) (fun _=>[]) (fun v=>[fSl intE v (upTo' n)]) (fun _=>True):=by
 refine zE _ (isC 87) fun B w0=>?_;refine go ?_;refine zAd intE ?_;refine zH (fun y:Nat×Value=>n - y.1) (fun y=>[(5,.int .i64 (y.1:Int)),(2,y.2)]) (fun y=>[ap intE y.2 (upTo' y.1)]) (fun _=>[]) (fun y=>y.1≤n) (0,.slice none 0 0) (Nat.zero_le _) (hk:=by repeat (first|exact SelL.nil|(apply SelL.cons;(focus (repeat (first|exact Sel.here|apply Sel.there)))))) (body:=?_);rintro⟨i,v⟩ hi;dsimp only at hi⊢;have hil:=zAr i;refine go ?_;refine if_d rfl (fun h2=>?_) (fun h2=>?_)
 ·refine go ?_;intro b10;refine go ?_;refine zAv (xs:=upTo' i) intE (i:Int) () (by omega) (next:=fun ad=>?_);rw[← zGW];refine go ?_;exact zB (i+1,.slice ad ((upTo' i).length+1) ((upTo' i).length+1)) (by show n - (i+1)<n - i;omega) (by show i+1≤_;omega)
 have hie:i=n:=by omega
 subst hie;refine zK (z5 (E:=intE) (v:=v) (xs:=upTo' i)) (h:=?_);refine go ?_;exact q_fin v (hv:=rfl) (hp:=trivial)
abbrev FnN(P:Program)(fn:Fn)(first cap:List Value)(F:List zJ)(c:Int→Int→Bool)(a b:Int):Prop:=
 FnC P fn (first++[.int .i64 a,.int .i64 b]) cap [] F (fun _:Unit=>.bool (c a b)) (fun _=>[]) (fun _=>[]) (fun _=>True)
theorem zE2{k:Knd}{grid:List Int}{vh vs vr vc vu gh gc vn vl vp vg vv:Value}{fn:Fn}{first cap:List Value}{F1:List zJ}{c:Int→Int→Bool}(hn:k.nbs.length≤grid.length)(hg:grid.length≤1000000)(hnb:∀l∈k.nbs,l.length<9223372036854775808∧∀b∈l,0≤b∧b<grid.length)
 (hc:∀a∈grid,∀b∈grid,FnN Tryz.prog fn first cap F1 c a b):
 FnC Tryz.prog (.func 77) [.agg ⟨vwL k vh vs vr vc vu gh gc vn vl vp vg vv⟩,.func fn ⟨first⟩ ⟨cap⟩] [] [] (fSl (slE intE) vn k.nbs::fSl intE vg grid::F1) (fun _:Unit=>.bool (zGS k.nbs grid c)) (fun _=>[]) (fun _=>[]) (fun _=>True):=by
 refine zE _ (isC 77) fun B w0=>?_;refine zR (E:=slE intE) (v:=vn) (xs:=k.nbs) (by simp) fun an cn en=>?_;subst en;refine zR (E:=intE) (v:=vg) (xs:=grid) (by simp) fun ag cg eg=>?_;subst eg;refine go ?_;intro b2;refine go ?_;refine zH (fun j:Nat=>k.nbs.length - j) (fun j=>[(13,.int .i64 (j:Int))]) (fun _=>[]) (fun _=>[]) (fun j=>j≤k.nbs.length∧zGS (k.nbs.take j) grid c=true) 0 ⟨Nat.zero_le _,rfl⟩ (body:=?_);rintro j ⟨hj,hall⟩;refine go ?_;refine if_d rfl (fun h1=>?_) (fun h1=>?_)
 ·refine go ?_;refine zV (slE intE) (xs:=k.nbs) (next:=fun _ _ l (vl2:Value) hl=>?_);obtain⟨hll,hlb⟩:=hnb l (List.mem_of_getElem? hl);refine go ?_;refine zH (fun i:Nat=>l.length - i) (fun i=>[(20,.int .i64 (i:Int))]) (fun _=>[]) (fun _=>[]) (fun i=>i≤l.length∧((l.take i).all fun b=>c (gAt grid (j:Int)) (gAt grid b))=true) 0 ⟨Nat.zero_le _,rfl⟩ (body:=?_);rintro i ⟨hi,hall2⟩;refine go ?_;refine if_d rfl (fun h2=>?_) (fun h2=>?_)
  ·refine go ?_;intro _ _ b hb;obtain⟨hb0,hb1⟩:=hlb b (List.mem_of_getElem? hb);obtain⟨bn,rfl⟩:=Int.eq_ofNat_of_zero_le hb0;refine go ?_;intro _ _ x hx _ _ y hy;have hcx:=hc x (List.mem_of_getElem? hx) y (List.mem_of_getElem? hy);have hxg:=zIO hx;have hyg:=zIO hy;refine go ?_;refine zA hcx (next:=fun _ _=>?_);cases hcb:c x y with
   |false=>
    have hff:zGS k.nbs grid c=false:=zKh hl hb (by rw[hxg,hyg];exact hcb);refine go ?_;refine q_fin () (hv:=?_) (hp:=trivial);rw[hff];rfl
   |true=>
    refine go ?_;refine zB (i+1) (by show l.length - (i+1)<l.length - i;omega) ⟨by omega,?_⟩;rw[zP hb,List.all_append,hall2,List.all_cons,List.all_nil,hxg,hyg,hcb];rfl
  have hie:i=l.length:=by omega
  subst hie;rw[List.take_length]at hall2;refine go ?_;refine zB (j+1) (by show k.nbs.length - (j+1)<k.nbs.length - j;omega) ⟨by omega,?_⟩;rw[zNY hl,hall,hall2];rfl
 have hje:j=k.nbs.length:=by omega
 subst hje;rw[List.take_length]at hall;refine go ?_;refine q_fin () (hv:=?_) (hp:=trivial);rw[hall];rfl
end Go.Proofs.YtpkieeggilkagaaGreat
