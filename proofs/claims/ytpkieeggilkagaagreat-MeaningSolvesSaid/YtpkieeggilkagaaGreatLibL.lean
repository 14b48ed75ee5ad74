/-
  Types: declarations that are well-formed.
-/
import Derived.Test.YtpkieeggilkagaaGreatLibK
import Derived.Test.YtpkieeggilkagaaGreatPlainB
import Derived.Test.YtpkieeggilkagaaGreatIdealO
set_option linter.unusedSimpArgs false
set_option linter.unusedVariables false
set_option maxRecDepth 10000
set_option maxHeartbeats 4000000
namespace Go.Proofs.YtpkieeggilkagaaGreat
open Go.Ideal Kd
structure zMy(d:Dcl):Prop where
 syms:∀s∈d.symbols,0≤s.value∧s.value≤99
 ruls:∀r∈d.rules,zSA (shpOf r.kind) d.clues r
 clus:∀(i:Nat) (c:Clu),d.clues[i]? =some c→(d.rules.map (·.clue)).count (i:Int)=1∧CluP c
theorem zMo{d:Dcl}{vh vs vr vc vu:Value}(hS:zJL d):
 FnC Tryz.prog (.func 242) [.agg ⟨zGB d vh vs vr vc vu⟩] [] [] [fSl zET vs d.symbols,fSl zAS vc d.clues,fSl zn vu d.rules] (fun b:Bool=>.bool b) (fun _=>[]) (fun _=>[]) (fun b=>b=true↔zMy d):=by
 have hsl:=hS.syms;have hcl:=hS.clus;have hul:=hS.ruls;refine zE _ (isC 242) fun B w0=>?_;refine zR (E:=zET) (v:=vs) (xs:=d.symbols) (by simp) fun as1 cs1 es=>?_;subst es;refine zR (E:=zAS) (v:=vc) (xs:=d.clues) (by simp) fun ac cc ec=>?_;subst ec;refine zR (E:=zn) (v:=vu) (xs:=d.rules) (by simp) fun au cu eu=>?_;subst eu;refine go ?_;intro b1;refine zK (zN (b:=b1)) (h:=?_);refine go ?_;refine zH (fun k:Nat=>d.symbols.length - k) (fun k=>[(13,.int .i64 (k:Int))]) (fun _=>[]) (fun _=>[]) (fun k=>k≤d.symbols.length∧∀s∈d.symbols.take k,0≤s.value∧s.value≤99) 0 ⟨Nat.zero_le _,by simp⟩ (body:=?_);rintro k ⟨hk,hall⟩;refine go ?_;refine if_d rfl (fun h1=>?_) (fun h1=>?_)
 ·refine go ?_;refine zV zET (xs:=d.symbols) (next:=fun _ _ s (_:Unit) hs=>?_);have hsm:=List.mem_of_getElem? hs;refine go ?_;intro b4;refine go ?_;first|with_reducible refine g_d (fun h2=>?_) (fun h2=>?_)|with_reducible refine g_n (fun h2=>?_) (fun h2=>?_)|with_reducible refine g_b (fun h2=>?_) (fun h2=>?_)
  ·refine go ?_;refine if_d rfl (fun h3=>?_) (fun h3=>?_)
   ·refine go ?_;exact q_fin false (hv:=rfl) (hp:=⟨(fun h=>by cases h),fun h=>by exfalso;have:=h.syms s hsm;omega⟩)
   ·refine go ?_;refine zB (k+1) (by show d.symbols.length - (k+1)<d.symbols.length - k;omega) ⟨by omega,?_⟩;rw[zP hs];intro x hx;rcases List.mem_append.1 hx with hx|hx
    ·exact hall x hx
    ·rw[List.mem_singleton.1 hx];omega
  ·refine go ?_;exact q_fin false (hv:=rfl) (hp:=⟨(fun h=>by cases h),fun h=>by exfalso;have:=h.syms s hsm;omega⟩)
 have hks:k=d.symbols.length:=by omega
 subst hks;rw[List.take_length]at hall;refine go ?_;refine zCU zDR (fun bm=>?_);refine go ?_;refine zH (fun k:Nat=>d.rules.length - k) (fun k=>[(30,.int .i64 (k:Int))]) (fun k=>[mpA zDR bm (zNk ((d.rules.take k).map (·.clue)))]) (fun _=>[]) (fun k=>k≤d.rules.length∧∀r∈d.rules.take k,zSA (shpOf r.kind) d.clues r) 0 ⟨Nat.zero_le _,by simp⟩ (hk:=by repeat (first|exact SelL.nil|(apply SelL.cons;(focus (repeat (first|exact Sel.here|apply Sel.there)))))) (body:=?_);rintro k ⟨hk,hrul⟩;have hcn:∀c:Int,((d.rules.take k).map (·.clue)).count c≤4096:=fun c=>by
  have:=zMk c ((d.rules.take k).map (·.clue));rw[List.length_map,List.length_take]at this;omega
 refine go ?_;refine if_d rfl (fun h1=>?_) (fun h1=>?_)
 ·refine go ?_;refine zV zn (xs:=d.rules) (next:=fun _ _ r (vv:Value×Value) hr=>?_);have hrm:=List.mem_of_getElem? hr;have hrn:=hS.rnames r hrm;refine go ?_;intro b7;refine go ?_;refine zA (zOe (d:=d) (r:=r) (v1:=vv.1) (v2:=vv.2) hcl hrn.1 hrn.2) (next:=fun b hb=>?_);cases b with
  |false=>
   refine go ?_;exact q_fin false (hv:=rfl) (hp:=⟨(fun h=>by cases h),fun h=>absurd (hb.2 (h.ruls r hrm)) (by simp)⟩)
  |true=>
   have hR:=hb.1 rfl;have hc1:=hcn r.clue;have hst:zNk ((d.rules.take (k+1)).map (·.clue))=upd r.clue (.int .i64 ((((d.rules.take k).map (·.clue)).count r.clue:Nat)+1)) (zNk ((d.rules.take k).map (·.clue))):=by
    rw[zP hr,List.map_append,List.map_singleton,zE8]
   refine go ?_;refine zH0 (toV:=zDR) (b:=bm) (kvs:=zNk ((d.rules.take k).map (·.clue))) zEP r.clue ?_;rw[zQH];refine go ?_;refine zGu (toV:=zDR) (b:=bm) (v:=.int .i64 ((((d.rules.take k).map (·.clue)).count r.clue:Nat)+1)) (kvs:=zNk ((d.rules.take k).map (·.clue))) zEP r.clue ?_;rw[← hst];refine go ?_;refine zB (k+1) (by show d.rules.length - (k+1)<d.rules.length - k;omega) ⟨by omega,?_⟩;rw[zP hr];intro x hx;rcases List.mem_append.1 hx with hx|hx
   ·exact hrul x hx
   ·rw[List.mem_singleton.1 hx];exact hR
 have hkr:k=d.rules.length:=by omega
 subst hkr;rw[List.take_length]at hrul hcn⊢;refine go ?_;refine zH (fun k:Nat=>d.clues.length - k) (fun k=>[(47,.int .i64 (k:Int))]) (fun _=>[]) (fun _=>[]) (fun k=>k≤d.clues.length∧∀(i:Nat) (c:Clu),i<k→d.clues[i]? =some c→(d.rules.map (·.clue)).count (i:Int)=1∧CluP c) 0 ⟨Nat.zero_le _,fun i c h=>by omega⟩ (body:=?_);rintro k ⟨hk,hclu⟩;refine go ?_;refine if_d rfl (fun h1=>?_) (fun h1=>?_)
 ·refine go ?_;refine zV zAS (xs:=d.clues) (next:=fun _ _ c (_:Unit) hc=>?_);have hck:=hcn (k:Int);refine go ?_;intro b9;refine go ?_;refine zH0 (toV:=zDR) (b:=bm) (kvs:=zNk (d.rules.map (·.clue))) zEP (k:Int) ?_;rw[zQH];refine go ?_;first|with_reducible refine g_d (fun h2=>?_) (fun h2=>?_)|with_reducible refine g_n (fun h2=>?_) (fun h2=>?_)|with_reducible refine g_b (fun h2=>?_) (fun h2=>?_)
  ·refine go ?_;refine zA (zPw (c:=c)) (next:=fun _ _=>?_);refine go ?_;refine zJK rfl (fun h3=>?_) (fun h3=>?_)
   ·refine go ?_;exact q_fin false (hv:=rfl) (hp:=⟨(fun h=>by cases h),fun h=>absurd (h.clus k c hc).2 h3⟩)
   ·refine go ?_;refine zB (k+1) (by show d.clues.length - (k+1)<d.clues.length - k;omega) ⟨by omega,fun i x hi hx=>?_⟩;by_cases hik:i=k
    ·subst hik;rw[hc]at hx;cases hx;exact⟨by omega,h3⟩
    ·exact hclu i x (by omega) hx
  ·refine go ?_;exact q_fin false (hv:=rfl) (hp:=⟨(fun h=>by cases h),fun h=>by exfalso;have:=(h.clus k c hc).1;omega⟩)
 have hkc:k=d.clues.length:=by omega
 subst hkc;refine go ?_;exact q_fin true (hv:=rfl) (hp:=⟨fun _=>⟨hall,hrul,fun i c hc=>hclu i c (List.getElem?_eq_some_iff.1 hc).1 hc⟩,fun _=>rfl⟩)
end Go.Proofs.YtpkieeggilkagaaGreat
namespace Go.Proofs.YtpkieeggilkagaaGreat
open Go.Ideal Kd
theorem zLK{v:Value}{xs:List Int}:FnC Tryz.prog (.func 261) [v] [] [] [fSl intE v xs] (fun b:Nat=>.func (.func 277) #[] #[ptr' b]) (fun _=>[]) (fun b=>[fRaw b 0 [v]]) (fun _=>True):=by
 refine zE _ (isC 261) fun B w0=>?_;refine zR (E:=intE) (v:=v) (xs:=xs) (by simp) fun a c e=>?_;subst e;refine go ?_;intro b1;refine go ?_;refine zK (zN (b:=b1)) (h:=?_);exact q_fin b1 (hv:=rfl) (hp:=trivial)
theorem zK0{b:Nat}{v:Value}{xs:List Int}(hl:xs.length<9223372036854775808):zHT Tryz.prog (fun x:Int=>[zDR x]) (.func 277) [] [ptr' b] [fRaw b 0 [v],fSl intE v xs] (fun ys=>ys=xs):=by
 intro S inv ok step s0 yfn y1 y2 F' h0 hok hy;rw[List.cons_append,List.cons_append,List.nil_append];refine zE _ (isC 277) fun B w0=>?_;refine go ?_;refine zH (fun y:Nat×S=>xs.length - y.1) (fun y=>[(7,.int .i64 (y.1:Int))]) (fun y=>inv y.2) (fun _=>[]) (fun y=>y.1≤xs.length∧ok (xs.take y.1) y.2∧zAf step y.2 (xs.drop y.1)=zAf step s0 xs) (0,s0) ⟨Nat.zero_le _,h0,rfl⟩ (body:=?_);rintro⟨k,s⟩ ⟨hk,hos,hrun⟩;dsimp only at hk hos hrun⊢;refine go ?_;refine if_d rfl (fun h1=>?_) (fun h1=>?_)
 ·refine go ?_;intro _ _ x hx;have hd:xs.drop k=x::xs.drop (k+1):=by
   rw[List.drop_eq_getElem_cons (by omega)];congr 1;rw[List.getElem?_eq_getElem (by omega)]at hx;exact Option.some.inj hx
  have hX:xs.take k++x::xs.drop (k+1)=xs:=by rw[← hd,List.take_append_drop]
  have hyy:=hy _ s _ _ hos hX;rw[hd,zAf]at hrun;refine go ?_;refine zA hyy (next:=fun _ _=>?_);cases hst:(step s x).2 with
  |true=>
   have hs1:step s x=((step s x).1,true):=Prod.ext rfl hst;rw[hs1]at hrun;refine go ?_;refine zB (k+1,(step s x).1) (by show xs.length - (k+1)<xs.length - k;omega) ⟨by show k+1≤_;omega,?_,hrun⟩;show ok (xs.take (k+1)) _;rw[zP hx];exact hok _ s _ _ hos hX hst
  |false=>
   have hs1:step s x=((step s x).1,false):=Prod.ext rfl hst;rw[hs1]at hrun;dsimp only at hrun;refine go ?_;exact q_fin xs (hv:=rfl) (hp:=rfl) (hk:=by rw[← hrun];exact SelL.all _)
 have hke:k=xs.length:=by omega
 subst hke;rw[List.drop_length]at hrun;refine go ?_;exact q_fin xs (hv:=rfl) (hp:=rfl) (hk:=by rw[← hrun];exact SelL.all _)
abbrev FnL(P:Program)(fn:Fn)(first cap:List Value)(F:List zJ)(p:List Int→Bool)(x:List Int):Prop:=
 ∀v:Value,FnC P fn (first++[v]) cap [] (fSl intE v x::F) (fun _:Unit=>.bool (p x)) (fun _=>[]) (fun _=>[]) (fun _=>True)
theorem zOT{fn:Fn}{first cap:List Value}{F1:List zJ}{p:List Int→Bool}{va:Value}{xs:List (List Int)}(hl:xs.length<9223372036854775808)(hp:∀x∈xs,FnL Tryz.prog fn first cap F1 p x):
 FnC Tryz.prog (.func 278) [va,.func fn ⟨first⟩ ⟨cap⟩] [] [ap (slE intE) va xs] F1 (fun r:Int=>.int .i64 r) (fun _=>[ap (slE intE) va xs]) (fun _=>[]) (fun r=>(0≤r↔xs.any p=true)):=by
 refine zE _ (isC 278) fun B w0=>?_;refine zDf (E:=slE intE) (v:=va) (xs:=xs) fun a hv=>?_;subst hv;refine go ?_;refine zH (fun k=>xs.length - k) (fun k:Nat=>[(8,.int .i64 (k:Int))]) (fun _=>[]) (fun _=>[]) (fun k=>k≤xs.length∧(xs.take k).any p=false) 0 ⟨by omega,by simp⟩ (body:=?_);rintro k ⟨hk,hno⟩;refine go ?_;refine if_d rfl (fun h1=>?_) (fun h1=>?_)
 ·have hx:xs[k]? =some (xs[k]'(by omega)):=List.getElem?_eq_getElem _;generalize xs[k]'(by omega)=x at hx;refine go ?_;refine zLu intE (v:=.slice a xs.length xs.length) (xss:=xs) k x hx (next:=fun b o u=>?_);refine go ?_;refine zA (hp x (List.mem_of_getElem? hx) u) (next:=fun _ _=>?_);refine go ?_;refine if_b rfl (fun h2=>?_) (fun h2=>?_)
  ·refine go ?_;exact q_fin (k:Int) (hv:=rfl) (hp:=⟨fun _=>List.any_eq_true.2 ⟨x,List.mem_of_getElem? hx,h2⟩,fun _=>by omega⟩)
  ·refine go ?_;refine zB (k+1) (by omega) ⟨by omega,?_⟩;rw[zP hx,List.any_append,hno];simp[h2]
 refine go ?_;have:k=xs.length:=by omega
 subst this;rw[List.take_length]at hno;exact q_fin (-1) (hv:=rfl) (hp:=⟨fun h=>by omega,fun h=>by rw[hno]at h;cases h⟩)
theorem zOS{fn:Fn}{first cap:List Value}{F1:List zJ}{p:List Int→Bool}{va:Value}{xs:List (List Int)}(hl:xs.length<9223372036854775808)(hp:∀x∈xs,FnL Tryz.prog fn first cap F1 p x):
 FnC Tryz.prog (.func 262) [va,.func fn ⟨first⟩ ⟨cap⟩] [] [ap (slE intE) va xs] F1 (fun _:Unit=>.bool (xs.any p)) (fun _=>[ap (slE intE) va xs]) (fun _=>[]) (fun _=>True):=by
 refine zE _ (isC 262) fun B w0=>?_;refine go ?_;refine zA (zOT hl hp) (next:=fun r hr=>?_);refine go ?_;refine q_fin () (hv:=?_) (hp:=trivial);have:xs.any p=decide (0≤r):=by rw[Bool.eq_iff_iff,decide_eq_true_iff];exact hr.symm
 rw[this];rfl
theorem zLz{b:Nat}{vx:Value}{zs:List Int}(hl:zs.length<9223372036854775808)(ys:List Int):FnL Tryz.prog (.func 263) [] [ptr' b] [fRaw b 0 [vx],fSl intE vx zs] (fun y=>decide (zs=y)) ys:=by
 intro v;rw[List.nil_append];refine zE _ (isC 263) fun B w0=>?_;refine go ?_;refine zA (zB2 (xs:=zs) (ys:=ys) hl) (next:=fun _ _=>?_);refine go ?_;exact q_fin () (hv:=rfl) (hp:=trivial)
def zNt(g:Grd)(r:Reg):Prop:=(zAB g∧zIY g r.lists)∧(r.lists.map sortZ).Nodup
theorem zPu{d:Dcl}{vh vs vr vc vu gh gc:Value}{g:Grd}(hS:zJL d)(hG:zP7 g):
 FnC Tryz.prog (.func 240) [.agg ⟨zGB d vh vs vr vc vu⟩,.agg ⟨zH2 g gh gc⟩] [] [] (fSl zEk vr d.regions::zLA g gh gc) (fun e:Int=>.int .i64 e) (fun _=>[]) (fun _=>[]) (fun e=>e=0↔∀r∈d.regions,zNt g r):=by
 have hrl:=hS.regs;refine zE _ (isC 240) fun B w0=>?_;refine zR (E:=zEk) (v:=vr) (xs:=d.regions) (by simp) fun ar cr er=>?_;subst er;refine go ?_;intro b2 b3;refine zK (zN (b:=b2)) (h:=?_);refine zK (zN (b:=b3)) (h:=?_);refine go ?_;refine zH (fun k:Nat=>d.regions.length - k) (fun k=>[(16,.int .i64 (k:Int))]) (fun _=>[]) (fun _=>[]) (fun k=>k≤d.regions.length∧∀r∈d.regions.take k,zNt g r) 0 ⟨Nat.zero_le _,by simp⟩ (body:=?_);rintro k ⟨hk,hall⟩;refine go ?_;refine if_d rfl (fun h1=>?_) (fun h1=>?_)
 ·refine go ?_;refine zV zEk (xs:=d.regions) (next:=fun _ _ r (vl:Value) hr=>?_);have hrm:=List.mem_of_getElem? hr;obtain⟨hl1,hl2⟩:=hS.regl r hrm;refine go ?_;intro b6;refine go ?_;refine zA (zLT (g:=g) (vh:=gh) (vc:=gc) (vr:=vl) (rs:=r.lists) hG hl1 hl2) (next:=fun y hy=>?_);obtain⟨v7,e⟩:=y;dsimp only at hy⊢;refine go ?_;refine if_d rfl (fun h2=>?_) (fun h2=>?_)
  ·refine go ?_;exact q_fin e (hv:=rfl) (hp:=⟨(fun h=>absurd h h2),fun h=>absurd (hy.2 (h r hrm).1) h2⟩)
  have he:e=0:=Decidable.not_not.1 h2;obtain⟨hg,hro⟩:=hy.1 he;have hgl:=hg.len;have hrl2:=hro.len;refine zR (E:=slE intE) (v:=vl) (xs:=r.lists) (by simp) fun al cl el=>?_;subst el;refine go ?_;refine zAd (slE intE) ?_;refine zH (fun y:Nat×Value=>r.lists.length - y.1) (fun y=>[(33,.int .i64 (y.1:Int)),(9,y.2)]) (fun y=>[ap (slE intE) y.2 ((r.lists.take y.1).map sortZ)]) (fun _=>[]) (fun y=>y.1≤r.lists.length∧((r.lists.take y.1).map sortZ).Nodup) (0,.slice none 0 0) ⟨Nat.zero_le _,by simp⟩ (hk:=by repeat (first|exact SelL.nil|(apply SelL.cons;(focus (repeat (first|exact Sel.here|apply Sel.there)))))) (body:=?_);rintro⟨j,v9⟩ ⟨hj,hnd⟩;dsimp only at hj hnd⊢;have hjl:((r.lists.take j).map sortZ).length=j:=by rw[List.length_map,List.length_take];omega
  refine go ?_;refine if_d rfl (fun h3=>?_) (fun h3=>?_)
  ·refine go ?_;refine zV (slE intE) (xs:=r.lists) (next:=fun _ _ ps (vp:Value) hps=>?_);have hpm:=List.mem_of_getElem? hps;have hP:=hro.all ps hpm;have hpl:ps.length≤256:=by have:=zFa hP.mem hP.nd;omega
   refine go ?_;refine zA (zLK (v:=vp) (xs:=ps)) (next:=fun bv _=>?_);refine go ?_;refine zA (zH4 (zK0 (b:=bv) (v:=vp) (xs:=ps) (by omega)) (fun ys h=>by rw[h];omega)) (next:=fun y hy2=>?_);obtain⟨v39,zs⟩:=y;dsimp only[List.cons_append,List.nil_append]at hy2⊢;subst hy2;have hzl:=zBM zs;refine zK (z5 (E:=intE) (v:=v39) (xs:=sortZ zs)) (h:=?_);refine zR (E:=intE) (v:=v39) (xs:=sortZ zs) (by simp) fun a39 c39 e39=>?_;subst e39;refine go ?_;intro b12;refine zK (zN (b:=b12)) (h:=?_);refine go ?_;refine zA (zOS (fn:=.func 263) (first:=[]) (cap:=[ptr' b12]) (F1:=[fRaw b12 0 [.slice a39 (sortZ zs).length c39],fSl intE (.slice a39 (sortZ zs).length c39) (sortZ zs)]) (p:=fun y=>decide (sortZ zs=y)) (va:=v9) (xs:=(r.lists.take j).map sortZ) (by omega) (fun x _=>zLz (by omega) x)) (next:=fun _ _=>?_);have htk:(r.lists.take (j+1)).map sortZ=(r.lists.take j).map sortZ++[sortZ zs]:=by rw[zP hps,List.map_append,List.map_singleton]
   refine go ?_;refine if_b rfl (fun h4=>?_) (fun h4=>?_)
   ·refine go ?_;refine q_fin 161 (hv:=rfl) (hp:=⟨(fun h=>by cases h),fun h=>?_⟩)
    exfalso
    have h5:=(h r hrm).2;have h6:((r.lists.take (j+1)).map sortZ).Nodup:=h5.sublist ((List.take_sublist _ _).map _);rw[htk,List.nodup_append]at h6;obtain⟨x,hx,hx2⟩:=List.any_eq_true.1 h4;exact h6.2.2 x hx _ (List.mem_singleton.2 rfl) (of_decide_eq_true hx2).symm
   ·refine go ?_;intro b45;refine go ?_;refine zAv (xs:=(r.lists.take j).map sortZ) (slE intE) (sortZ zs) (.slice a39 (sortZ zs).length c39) (by omega) (next:=fun ad=>?_);rw[← htk];refine go ?_;refine zB (j+1,.slice ad (((r.lists.take j).map sortZ).length+1) (((r.lists.take j).map sortZ).length+1)) (by show r.lists.length - (j+1)<r.lists.length - j;omega) ⟨by show j+1≤_;omega,?_⟩;show((r.lists.take (j+1)).map sortZ).Nodup;rw[htk,List.nodup_append];refine⟨hnd,by simp,fun a ha b hb e=>?_⟩;rw[List.mem_singleton.1 hb]at e;subst e;rw[List.any_eq_false]at h4;exact h4 _ ha (decide_eq_true rfl)
  have hje:j=r.lists.length:=by omega
  subst hje;rw[List.take_length]at hnd;refine go ?_;refine zB (k+1) (by show d.regions.length - (k+1)<d.regions.length - k;omega) ⟨by omega,?_⟩;rw[zP hr];intro x hx;rcases List.mem_append.1 hx with hx|hx
  ·exact hall x hx
  ·rw[List.mem_singleton.1 hx];exact⟨⟨hg,hro⟩,hnd⟩
 have hke:k=d.regions.length:=by omega
 subst hke;rw[List.take_length]at hall;refine go ?_;exact q_fin 0 (hv:=rfl) (hp:=⟨fun _=>hall,fun _=>rfl⟩)
end Go.Proofs.YtpkieeggilkagaaGreat
namespace Go.Proofs.YtpkieeggilkagaaGreat
open Go.Ideal Kd
structure zSU(d:Dcl):Prop where
 s0:0<d.symbols.length
 s1:d.symbols.length≤16
 r:d.regions.length≤4
 c:d.clues.length≤4
 u:d.rules.length≤16
structure zOW(d:Dcl):Prop where
 lim:zSU d
 rs:zF2 d
 same:Kd.rslv d=d
 ver:1≤d.version∧d.version≤255
 mke:zBl d.shape d.w d.h d.holes
 rgn:∀r∈d.regions,zNt (zI d) r
 form:zMy d
 read:zBP d.rules=[]
structure zQE(d:Dcl):Prop where
 s:zJL d
 w:I64 d.w
 h:I64 d.h
 holes:d.holes.length<4611686018427387904
theorem zJD{d:Dcl}(hm:zBl d.shape d.w d.h d.holes):zP7 (zI d):=by
 have hb:=zBk hm.wi hm.he;have h1:=hm.wi;have h2:=hm.he;have h3:=hm.len;have h4:=zCg (d.w*d.h).toNat d.holes;refine⟨?_,?_,?_,?_⟩
 ·show I64 d.w;unfold I64;omega
 ·show I64 d.h;unfold I64;omega
 ·show d.holes.length<_;omega
 ·show(zAJ d.w d.h d.holes).length<_;unfold zAJ;omega
abbrev tF(b:Nat)(d:Dcl)(vh vs vr vc vu:Value):List zJ:=fRaw b 0 (zGB d vh vs vr vc vu)::zLE d vh vs vr vc vu
theorem zQp{b:Nat}{d:Dcl}{vh vs vr vc vu:Value}(hS:zJL d):FnC Tryz.prog (.func 234) [] [ptr' b] [] (tF b d vh vs vr vc vu) (fun e:Int=>.int .i64 e) (fun _=>[]) (fun _=>[]) (fun e=>e=0↔zSU d):=by
 have hsl:=hS.syms;have hrl:=hS.regs;have hcl:=hS.clus;have hul:=hS.ruls;refine zE _ (isC 234) fun B w0=>?_;refine go ?_;first|with_reducible refine g_d (fun h1=>?_) (fun h1=>?_)|with_reducible refine g_n (fun h1=>?_) (fun h1=>?_)|with_reducible refine g_b (fun h1=>?_) (fun h1=>?_)
 ·refine go ?_;refine zA (zAc (b:=false) (e:=2)) (next:=fun _ _=>?_);refine go ?_;refine q_fin _ (hv:=rfl) (hp:=⟨fun h=>?_,fun h=>?_⟩)
  ·cases h
  ·exact absurd h.s0 (by omega)
 refine go ?_;first|with_reducible refine g_d (fun h2=>?_) (fun h2=>?_)|with_reducible refine g_n (fun h2=>?_) (fun h2=>?_)|with_reducible refine g_b (fun h2=>?_) (fun h2=>?_)
 ·refine go ?_;refine zA (zAc (b:=false) (e:=2)) (next:=fun _ _=>?_);refine go ?_;refine q_fin _ (hv:=rfl) (hp:=⟨fun h=>?_,fun h=>?_⟩)
  ·cases h
  ·exact absurd h.s1 (by omega)
 refine go ?_;first|with_reducible refine g_d (fun h3=>?_) (fun h3=>?_)|with_reducible refine g_n (fun h3=>?_) (fun h3=>?_)|with_reducible refine g_b (fun h3=>?_) (fun h3=>?_)
 ·refine go ?_;refine zA (zAc (b:=false) (e:=2)) (next:=fun _ _=>?_);refine go ?_;refine q_fin _ (hv:=rfl) (hp:=⟨fun h=>?_,fun h=>?_⟩)
  ·cases h
  ·exact absurd h.r (by omega)
 refine go ?_;first|with_reducible refine g_d (fun h4=>?_) (fun h4=>?_)|with_reducible refine g_n (fun h4=>?_) (fun h4=>?_)|with_reducible refine g_b (fun h4=>?_) (fun h4=>?_)
 ·refine go ?_;refine zA (zAc (b:=false) (e:=2)) (next:=fun _ _=>?_);refine go ?_;refine q_fin _ (hv:=rfl) (hp:=⟨fun h=>?_,fun h=>?_⟩)
  ·cases h
  ·exact absurd h.c (by omega)
 refine go ?_;by_cases h5:d.rules.length≤16
 ·rw[show decide ((d.rules.length:Int)≤16)=true from decide_eq_true (by omega)];refine zA (zAc (b:=true) (e:=2)) (next:=fun _ _=>?_);refine go ?_;refine q_fin _ (hv:=rfl) (hp:=⟨fun h=>?_,fun h=>?_⟩)
  ·exact⟨by omega,by omega,by omega,by omega,h5⟩
  ·rfl
 ·rw[show decide ((d.rules.length:Int)≤16)=false from decide_eq_false (by omega)];refine zA (zAc (b:=false) (e:=2)) (next:=fun _ _=>?_);refine go ?_;refine q_fin _ (hv:=rfl) (hp:=⟨fun h=>?_,fun h=>?_⟩)
  ·cases h
  ·exact absurd h.u h5
theorem zJL.rslv{d:Dcl}(hS:zJL d):zJL (Kd.rslv d):=by
 refine⟨hS.syms,hS.regs,?_,?_,?_,hS.holes,hS.regl⟩
 ·show(d.clues.map _).length≤_;rw[List.length_map];exact hS.clus
 ·show(d.rules.map _).length≤_;rw[List.length_map];exact hS.ruls
 ·intro r hr;obtain⟨q,hq,rfl⟩:=List.mem_map.1 (show r∈d.rules.map _ from hr);exact hS.rnames q hq
theorem zQv{b:Nat}{d:Dcl}{vh vs vr vc vu:Value}(hS:zJL d):FnC Tryz.prog (.func 236) [] [ptr' b] [] (tF b d vh vs vr vc vu) (fun e:Int=>.int .i64 e) (fun _=>[]) (fun _=>[]) (fun e=>e=0↔zF2 d∧Kd.rslv d=d):=by
 refine zE _ (isC 236) fun B w0=>?_;refine go ?_;refine zA (zLl (d:=d) hS) (next:=fun y hy=>?_);obtain⟨ok,e,v1,v2⟩:=y;dsimp only[rsV,rsF,RsP]at hy⊢;cases ok with
 |false=>
  obtain⟨he,hno⟩:=hy.2 rfl;dsimp only[cond];refine go ?_;intro b2;refine go ?_;refine if_d rfl (fun h1=>?_) (fun h1=>?_)
  ·refine go ?_;exact q_fin e (hv:=rfl) (hp:=⟨fun h=>absurd h he,fun h=>absurd h.1 hno⟩)
  ·exact absurd (Decidable.not_not.1 h1) he
 |true=>
  obtain⟨he,hres⟩:=hy.1 rfl;subst he;dsimp only[cond,List.cons_append,List.nil_append];refine go ?_;intro b2;refine go ?_;have hsy:FnP Tryz.prog 144 [.agg ⟨zGB (Kd.rslv d) vh vs vr v1 v2⟩,.agg ⟨zGB d vh vs vr vc vu⟩] [fSl intE vh d.holes,fSl zET vs d.symbols,fSl zEk vr d.regions,fSl zAS v1 (Kd.rslv d).clues,fSl zn v2 (Kd.rslv d).rules,fSl zAS vc d.clues,fSl zn vu d.rules] (.bool (decide (Kd.rslv d=d))):=
   (zF5 (x:=Kd.rslv d) (y:=d) (h1:=vh) (s1:=vs) (r1:=vr) (c1:=v1) (u1:=v2) (h2:=vh) (s2:=vs) (r2:=vr) (c2:=vc) (u2:=vu) hS.rslv).facts (fun f hf=>by
     simp only[zLE,List.cons_append,List.nil_append,List.mem_cons,List.not_mem_nil,or_false]at hf⊢;rcases hf with rfl|rfl|rfl|rfl|rfl|rfl|rfl|rfl|rfl|rfl
     ·exact .inl rfl
     ·exact .inr (.inl rfl)
     ·exact .inr (.inr (.inl rfl))
     ·simp
     ·simp
     ·exact .inl rfl
     ·exact .inr (.inl rfl)
     ·exact .inr (.inr (.inl rfl))
     ·simp
     ·simp)
  refine zA hsy (next:=fun _ _=>?_);refine go ?_;by_cases hr:Kd.rslv d=d
  ·rw[decide_eq_true hr];refine zA (zAc (b:=true) (e:=170)) (next:=fun _ _=>?_);refine go ?_;exact q_fin 0 (hv:=rfl) (hp:=⟨fun _=>⟨hres,hr⟩,fun _=>rfl⟩)
  ·rw[decide_eq_false hr];refine zA (zAc (b:=false) (e:=170)) (next:=fun _ _=>?_);refine go ?_;exact q_fin 170 (hv:=rfl) (hp:=⟨(fun h=>by cases h),fun h=>absurd h.2 hr⟩)
theorem zRx{b:Nat}{d:Dcl}{vh vs vr vc vu:Value}:FnC Tryz.prog (.func 237) [] [ptr' b] [] (tF b d vh vs vr vc vu) (fun e:Int=>.int .i64 e) (fun _=>[]) (fun _=>[]) (fun e=>e=0↔(1≤d.version∧d.version≤255)):=by
 refine zE _ (isC 237) fun B w0=>?_;refine go ?_;first|with_reducible refine g_d (fun h1=>?_) (fun h1=>?_)|with_reducible refine g_n (fun h1=>?_) (fun h1=>?_)|with_reducible refine g_b (fun h1=>?_) (fun h1=>?_)
 ·refine go ?_;refine zA (zAc (b:=false) (e:=170)) (next:=fun _ _=>?_);refine go ?_;exact q_fin 170 (hv:=rfl) (hp:=⟨(fun h=>by cases h),fun h=>by exfalso;omega⟩)
 refine go ?_;by_cases h2:d.version≤255
 ·rw[decide_eq_true h2];refine zA (zAc (b:=true) (e:=170)) (next:=fun _ _=>?_);refine go ?_;exact q_fin 0 (hv:=rfl) (hp:=⟨fun _=>⟨by omega,h2⟩,fun _=>rfl⟩)
 ·rw[decide_eq_false h2];refine zA (zAc (b:=false) (e:=170)) (next:=fun _ _=>?_);refine go ?_;exact q_fin 170 (hv:=rfl) (hp:=⟨(fun h=>by cases h),fun h=>absurd h.2 h2⟩)
theorem zRu{b bg:Nat}{d:Dcl}{vh vs vr vc vu:Value}(hT:zQE d):FnC Tryz.prog (.func 238) [] [ptr' b,ptr' bg] [pt bg (.cells zM2)] (tF b d vh vs vr vc vu) (fun y:MkY=>.int .i64 (cond y.ok 0 130))
 (fun y=>[pt bg (.cells (cond y.ok (zH2 (mkG d.shape d.w d.h d.holes) y.vh y.vc) zM2))]) (mkF d.shape d.w d.h d.holes) (fun y=>y.ok=true↔zBl d.shape d.w d.h d.holes):=by
 refine zE _ (isC 238) fun B w0=>?_;refine go ?_;refine zA (zHB (s:=d.shape) (w:=d.w) (h:=d.h) (holes:=d.holes) (vh:=vh) hT.w hT.h hT.holes) (next:=fun y hy=>?_);obtain⟨ok,v1,v2⟩:=y;cases ok with
 |false=>
  dsimp only[mkV,mkF,cond,List.nil_append]at hy⊢;refine go ?_;exact q_fin ⟨false,v1,v2⟩ (hv:=rfl) (hp:=hy)
 |true=>
  dsimp only[mkV,mkF,cond,zLA,mkG,List.cons_append,List.nil_append]at hy⊢;refine go ?_;exact q_fin ⟨true,v1,v2⟩ (hv:=rfl) (hp:=hy) (hF:=by show Sub [fSl intE v1 d.holes,fSl intE v2 (zAJ d.w d.h d.holes)] _;exact .cons (by simp) (.cons (by simp) .nil))
theorem zQl{b bg:Nat}{d:Dcl}{vh vs vr vc vu gh gc:Value}{g:Grd}(hS:zJL d)(hG:zP7 g):FnC Tryz.prog (.func 239) [] [ptr' b,ptr' bg] [] (fRaw bg 0 (zH2 g gh gc)::fSl intE gh g.holes::fSl intE gc g.cells::tF b d vh vs vr vc vu) (fun e:Int=>.int .i64 e) (fun _=>[]) (fun _=>[]) (fun e=>e=0↔∀r∈d.regions,zNt g r):=by
 refine zE _ (isC 239) fun B w0=>?_;refine go ?_;refine zA (zPu (d:=d) (vh:=vh) (vs:=vs) (vr:=vr) (vc:=vc) (vu:=vu) (g:=g) (gh:=gh) (gc:=gc) hS hG) (next:=fun e he=>?_);refine go ?_;exact q_fin e (hv:=rfl) (hp:=he)
theorem zRT{b:Nat}{d:Dcl}{vh vs vr vc vu:Value}(hS:zJL d):FnC Tryz.prog (.func 241) [] [ptr' b] [] (tF b d vh vs vr vc vu) (fun e:Int=>.int .i64 e) (fun _=>[]) (fun _=>[]) (fun e=>e=0↔zMy d):=by
 refine zE _ (isC 241) fun B w0=>?_;refine go ?_;refine zA (zMo (d:=d) (vh:=vh) (vs:=vs) (vr:=vr) (vc:=vc) (vu:=vu) hS) (next:=fun c hc=>?_);refine go ?_;refine zA (zAc (b:=c) (e:=170)) (next:=fun _ _=>?_);refine go ?_;cases c with
 |false=>exact q_fin 170 (hv:=rfl) (hp:=⟨(fun h=>by cases h),fun h=>absurd (hc.2 h) (by simp)⟩)
 |true=>exact q_fin 0 (hv:=rfl) (hp:=⟨fun _=>hc.1 rfl,fun _=>rfl⟩)
theorem zQ4{b:Nat}{d:Dcl}{vh vs vr vc vu:Value}(hS:zJL d):FnC Tryz.prog (.func 243) [] [ptr' b] [] (tF b d vh vs vr vc vu) (fun e:Int=>.int .i64 e) (fun _=>[]) (fun _=>[]) (fun e=>e=0↔zBP d.rules=[]):=by
 refine zE _ (isC 243) fun B w0=>?_;refine go ?_;refine zA (zRW (d:=d) (vh:=vh) (vs:=vs) (vr:=vr) (vc:=vc) (vu:=vu) hS.ruls) (next:=fun v _=>?_);refine go ?_;by_cases h:zBP d.rules=[]
 ·rw[show decide (((zBP d.rules).length:Int)=0)=true from decide_eq_true (by rw[h];rfl)];refine zA (zAc (b:=true) (e:=171)) (next:=fun _ _=>?_);refine go ?_;exact q_fin 0 (hv:=rfl) (hp:=⟨fun _=>h,fun _=>rfl⟩)
 ·rw[show decide (((zBP d.rules).length:Int)=0)=false from decide_eq_false (fun e=>h (List.length_eq_zero_iff.1 (by omega)))];refine zA (zAc (b:=false) (e:=171)) (next:=fun _ _=>?_);refine go ?_;exact q_fin 171 (hv:=rfl) (hp:=⟨(fun h=>by cases h),fun e=>absurd e h⟩)
theorem zRG{d:Dcl}{vh vs vr vc vu:Value}(hT:zQE d):FnC Tryz.prog (.func 183) [.agg ⟨zGB d vh vs vr vc vu⟩] [] [] (zLE d vh vs vr vc vu) (fun e:Int=>.int .i64 e) (fun _=>[]) (fun _=>[]) (fun e=>e=0↔zOW d):=by
 have hS:=hT.s;refine zE _ (isC 183) fun B w0=>?_;refine go ?_;intro b1 b3 b14;refine zK (zN (b:=b1)) (h:=?_);refine go ?_;refine zAU ?_;refine go ?_;refine zA (zQp (b:=b1) (d:=d) (vh:=vh) (vs:=vs) (vr:=vr) (vc:=vc) (vu:=vu) hS) (next:=fun e he=>?_);refine go ?_;refine if_d rfl (fun hne=>?_) (fun hz=>?_)
 ·refine go ?_;exact q_fin e (hv:=rfl) (hp:=⟨fun h=>absurd h hne,fun h=>absurd (he.2 h.lim) hne⟩)
 have k1:=he.1 (Decidable.not_not.1 hz);clear hz he;refine go ?_;refine zAU ?_;refine go ?_;refine zA (zQv (b:=b1) (d:=d) (vh:=vh) (vs:=vs) (vr:=vr) (vc:=vc) (vu:=vu) hS) (next:=fun e he=>?_);refine go ?_;refine if_d rfl (fun hne=>?_) (fun hz=>?_)
 ·refine go ?_;exact q_fin e (hv:=rfl) (hp:=⟨fun h=>absurd h hne,fun h=>absurd (he.2 ⟨h.rs,h.same⟩) hne⟩)
 have k2:=he.1 (Decidable.not_not.1 hz);clear hz he;refine go ?_;refine zAU ?_;refine go ?_;refine zA (zRx (b:=b1) (d:=d) (vh:=vh) (vs:=vs) (vr:=vr) (vc:=vc) (vu:=vu)) (next:=fun e he=>?_);refine go ?_;refine if_d rfl (fun hne=>?_) (fun hz=>?_)
 ·refine go ?_;exact q_fin e (hv:=rfl) (hp:=⟨fun h=>absurd h hne,fun h=>absurd (he.2 h.ver) hne⟩)
 have k3:=he.1 (Decidable.not_not.1 hz);clear hz he;refine go ?_;refine zAU ?_;refine go ?_;refine zA (zRu (b:=b1) (bg:=b3) (d:=d) (vh:=vh) (vs:=vs) (vr:=vr) (vc:=vc) (vu:=vu) hT) (next:=fun y hy=>?_);obtain⟨ok,gh,gc⟩:=y;cases ok with
 |false=>
  dsimp only[cond,mkF,List.cons_append,List.nil_append]at hy⊢;refine go ?_;exact q_fin 130 (hv:=rfl) (hp:=⟨(fun h=>by cases h),fun h=>absurd (hy.2 h.mke) (by simp)⟩)
 |true=>
 have hmk:=hy.1 rfl;have hG:=zJD hmk;dsimp only[cond,mkF];rw[show mkG d.shape d.w d.h d.holes=zI d from rfl];dsimp only[zLA,List.cons_append,List.nil_append];refine zK (zN (b:=b3)) (h:=?_);refine go ?_;refine zAU ?_;refine go ?_;refine zA (zQl (b:=b1) (bg:=b3) (d:=d) (vh:=vh) (vs:=vs) (vr:=vr) (vc:=vc) (vu:=vu) (g:=zI d) (gh:=gh) (gc:=gc) hS hG) (next:=fun e he=>?_);refine go ?_;refine if_d rfl (fun hne=>?_) (fun hz=>?_)
 ·refine go ?_;exact q_fin e (hv:=rfl) (hp:=⟨fun h=>absurd h hne,fun h=>absurd (he.2 h.rgn) hne⟩)
 have k5:=he.1 (Decidable.not_not.1 hz);clear hz he;refine go ?_;refine zAU ?_;refine go ?_;refine zA (zRT (b:=b1) (d:=d) (vh:=vh) (vs:=vs) (vr:=vr) (vc:=vc) (vu:=vu) hS) (next:=fun e he=>?_);refine go ?_;refine if_d rfl (fun hne=>?_) (fun hz=>?_)
 ·refine go ?_;exact q_fin e (hv:=rfl) (hp:=⟨fun h=>absurd h hne,fun h=>absurd (he.2 h.form) hne⟩)
 have k6:=he.1 (Decidable.not_not.1 hz);clear hz he;refine go ?_;refine zAU ?_;refine go ?_;refine zA (zQ4 (b:=b1) (d:=d) (vh:=vh) (vs:=vs) (vr:=vr) (vc:=vc) (vu:=vu) hS) (next:=fun e he=>?_);refine go ?_;refine if_d rfl (fun hne=>?_) (fun hz=>?_)
 ·refine go ?_;exact q_fin e (hv:=rfl) (hp:=⟨fun h=>absurd h hne,fun h=>absurd (he.2 h.read) hne⟩)
 have k7:=he.1 (Decidable.not_not.1 hz);clear hz he;refine go ?_;refine zAU ?_;refine go ?_;exact q_fin 0 (hv:=rfl) (hp:=⟨fun _=>⟨k1,k2.1,k2.2,k3,hmk,k5,k6,k7⟩,fun _=>rfl⟩)
end Go.Proofs.YtpkieeggilkagaaGreat
