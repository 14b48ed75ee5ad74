/-
  The nodes that are reached.
-/
import Derived.Test.YtpkieeggilkagaaGreatLibA
import Derived.Test.YtpkieeggilkagaaGreatPlainA
import Derived.Test.YtpkieeggilkagaaGreatIdealM
set_option linter.unusedSimpArgs false
set_option linter.unusedVariables false
set_option maxRecDepth 10000
set_option maxHeartbeats 2000000
namespace Go.Proofs.YtpkieeggilkagaaGreat
open Go.Ideal Gph
theorem zGP(m:Nat):zeros [.bool false] m=(List.replicate m false).map Value.bool:=by rw[zCK,List.map_replicate]
theorem zTJ{B:List Nat}{w0:Wd}{kl kl':List OA}{F:List zJ}{Q:IH→Prop}{b:Nat}{z:Int}(hk:Sel (pt b (.cells [.int .i64 z])) kl kl')(h:R Q B w0 (ap intE (.slice (some ⟨b,0,some 0⟩) 1 1) [z]::kl') F):R Q B w0 kl F:=fun w s=>
 h w ((s.sel hk).turnA' fun S hp=>.inr ⟨b,0,0,_,rfl,.inl rfl,hp.1,hp.2,rfl,fun k x hk=>by
  match k,hk with
  |0,hk=>cases hk;exact⟨(),fun j u hj=>by simpa[intE]using hj,fun f hf=>by cases hf⟩⟩)
theorem zNv{b3 b4 b5:Nat}{vg vin:Value}{g:List (List Int)}{inn:List Bool}{s0:Int}(hG:GOK g)(hll:∀l∈g,l.length<9223372036854775808)(hin:inn.length=g.length)(hs:0≤s0∧s0<g.length):
 zGI Tryz.prog (fun x:Int=>.int .i64 x) (.func 158) [] [ptr' b3,ptr' b5,ptr' b4] [fRaw b3 0 [vg],fRaw b5 0 [.int .i64 s0],fRaw b4 0 [vin],fSl (slE intE) vg g,fSl zCY vin inn] (reachL g inn s0):=by
 intro S inv ok step t0 yfn y1 y2 F' h0 hok hy;dsimp only[List.cons_append,List.nil_append];refine zE _ (isC 158) fun B w0=>?_;have hlen:=hG.len;obtain⟨s0,rfl⟩:=Int.eq_ofNat_of_zero_le hs.1;refine go ?_;refine zNl g.length ⟨by omega,by omega,by omega⟩ fun b11=>?_;rw[zGP];refine go ?_;refine zC4 (o:=0+s0*1) (cs:=(List.replicate g.length false).map Value.bool) (v:=.bool true) (cs':=(zAs g.length s0).map Value.bool) (by rw[zAs,List.map_set];simp) (by simp;omega) ?_;refine go ?_;intro bq;refine zTJ (b:=bq) (z:=(s0:Int)) .here ?_;refine zH (fun x=>x.1) (fun x:Nat×List Bool×List Int×Value×S=>[(6,x.2.2.2.1)]) (fun x=>pt b11 (.cells (x.2.1.map Value.bool))::ap intE x.2.2.2.1 x.2.2.1::inv x.2.2.2.2) (fun _=>[])
  (fun x=>x.1≤g.length+1∧left x.2.1+x.2.2.1.length≤x.1∧x.2.1.length=g.length∧(∀n∈x.2.2.1,0≤n∧n<g.length)∧∃j,ok j x.2.2.2.2∧zAf step x.2.2.2.2 (bfs g inn x.1 x.2.1 x.2.2.1)=zAf step t0 (reachL g inn s0)∧bfs g inn x.1 x.2.1 x.2.2.1=(reachL g inn s0).drop j)
  (g.length+1,zAs g.length s0,[(s0:Int)],.slice (some ⟨bq,0,some 0⟩) 1 1,t0) ⟨Nat.le_refl _,?_,?_,?_,0,h0,rfl,rfl⟩ (body:=?_)
 ·show left (zAs g.length s0)+1≤g.length+1;have:left (zAs g.length s0)≤(zAs g.length s0).length:=List.length_filter_le _ _;have h:(zAs g.length s0).length=g.length:=by rw[zAs,List.length_set,List.length_replicate]
  rw[h]at this;omega
 ·show(zAs g.length s0).length=g.length;rw[zAs,List.length_set,List.length_replicate]
 ·intro n hn;rw[List.mem_singleton.1 hn];omega
 rintro⟨f,met,queue,qv,s⟩ ⟨hfg,hf,hml,hq,j,hos,hrun,hdrop⟩;dsimp only at hfg hf hml hq hos hrun hdrop⊢;refine go ?_;refine if_d rfl (fun h1=>?_) (fun h1=>?_)
 ·obtain⟨q0,qs,rfl⟩:∃q0 qs,queue=q0::qs:=by
   cases queue with
   |nil=>simp at h1
   |cons a b=>exact⟨a,b,rfl⟩
  obtain⟨f,rfl⟩:∃f',f=f'+1:=⟨f - 1,by simp at hf;omega⟩
  obtain⟨q0,rfl⟩:=Int.eq_ofNat_of_zero_le (hq q0 (by simp)).1;have hq0:=hq q0 (by simp);rw[bfs,Int.toNat_natCast]at hrun hdrop;have hj:=head_drop hdrop;refine go ?_;refine zQG 0 (q0:Int) rfl fun _ _=>?_;refine zA (hy j s q0 hos hj.1) (next:=fun _ _=>?_);rw[zAf]at hrun;cases hst:step s q0 with
  |mk s' b=>
  rw[hst]at hrun;cases b with
  |false=>
   dsimp only at hrun;refine go ?_;exact q_fin () (hv:=rfl) (hp:=trivial) (hk:=by rw[← hrun];exact SelL.self _ _)
  |true=>
  dsimp only at hrun;have hos':ok (j+1) s':=by have:=hok j s q0 hos hj.1 (by rw[hst]);rw[hst]at this;exact this
  refine go ?_;refine zQG 0 (q0:Int) rfl fun _ _=>?_;refine zV (slE intE) (next:=fun _ _ ns (vl:Value) hns=>?_);have hnl:=hll ns (List.mem_of_getElem? hns);have hnr:∀n∈ns,0≤n∧n<(g.length:Int):=fun n hn=>by
   obtain⟨k,hk⟩:=List.getElem?_of_mem hn;have:=hG.ok q0 ns hns k n hk;exact⟨this.1,this.2.1⟩
  have hgd:g.getD q0 []=ns:=by rw[List.getD_eq_getElem?_getD,hns];rfl
  rw[hgd]at hrun hdrop hj;obtain⟨i1,i2,i4,t,i5,i3⟩:=zCb (g:=g) (inn:=inn) ns met ((q0:Int)::qs) hml hnr;refine go ?_;refine zH (fun x=>ns.length - x.1) (fun x:Nat×List Bool×List Int×Value=>[(35,.int .i64 (x.1:Int)),(6,x.2.2.2)]) (fun x=>[pt b11 (.cells (x.2.1.map Value.bool)),ap intE x.2.2.2 x.2.2.1]) (fun _=>[])
   (fun x=>x.1≤ns.length∧x.2.1.length=g.length∧inner inn (ns.drop x.1) x.2.1 x.2.2.1=inner inn ns met ((q0:Int)::qs)∧left x.2.1+x.2.2.1.length=left met+((q0:Int)::qs).length) (0,met,(q0:Int)::qs,qv) ⟨Nat.zero_le _,hml,rfl,rfl⟩ (body:=?_)
  rintro⟨k,met',q',qv'⟩ ⟨hk,hml',hin',hl'⟩;dsimp only at hk hml' hin' hl'⊢;refine go ?_;refine if_d rfl (fun h2=>?_) (fun h2=>?_)
  ·refine go ?_;intro _ _ n hn;have hn0:=hnr n (List.mem_of_getElem? hn);obtain⟨n,rfl⟩:=Int.eq_ofNat_of_zero_le hn0.1;have hdk:ns.drop k=(n:Int)::ns.drop (k+1):=by
    obtain⟨hlt,he⟩:=List.getElem?_eq_some_iff.1 hn;rw[List.drop_eq_getElem_cons hlt,he]
   rw[hdk,inner]at hin';refine go ?_;intro _ _ c hc;have hc':inB inn n=c:=by unfold inB;rw[Int.toNat_natCast,List.getD_eq_getElem?_getD,hc];rfl
   rw[hc']at hin';first|with_reducible refine g_d (fun h3=>?_) (fun h3=>?_)|with_reducible refine g_n (fun h3=>?_) (fun h3=>?_)|with_reducible refine g_b (fun h3=>?_) (fun h3=>?_)
   ·subst h3;rw[if_neg (by simp)]at hin';refine go ?_;exact zB (k+1,met',q',qv') (by show ns.length - (k+1)<ns.length - k;omega) ⟨by show k+1≤_;omega,hml',hin',hl'⟩
   subst h3;have hnm:n<met'.length:=by omega
   refine go ?_;refine zDw (o:=0+n*1) (cs:=met'.map Value.bool) (.bool met'[n]) (by rw[Nat.zero_add,Nat.mul_one,List.getElem?_map,List.getElem?_eq_getElem hnm];rfl) ?_;have hm':inB met' n=met'[n]:=by unfold inB;rw[Int.toNat_natCast,List.getD_eq_getElem?_getD,List.getElem?_eq_getElem hnm];rfl
   rw[hm',Bool.true_and]at hin';cases hmv:met'[n]with
   |true=>
    rw[hmv,if_neg (by simp)]at hin';refine go ?_;exact zB (k+1,met',q',qv') (by show ns.length - (k+1)<ns.length - k;omega) ⟨by show k+1≤_;omega,hml',hin',hl'⟩
   |false=>
    rw[hmv,if_pos (by simp),Int.toNat_natCast]at hin';have hls:=zJR (met:=met') (n:=n) (by rw[List.getElem?_eq_getElem hnm,hmv]);refine go ?_;refine zC4 (o:=0+n*1) (cs:=met'.map Value.bool) (v:=.bool true) (cs':=(met'.set n true).map Value.bool) (by rw[List.map_set];simp) (by simp;omega) ?_;refine go ?_;intro b10;refine zAv (xs:=q') intE (n:Int) () (by simp only[List.length_cons]at hl' hf;omega) (next:=fun ad=>?_);refine go ?_;refine zB (k+1,met'.set n true,q'++[(n:Int)],_) (by show ns.length - (k+1)<ns.length - k;omega) ⟨by show k+1≤_;omega,by show(met'.set n true).length=_;rw[List.length_set];exact hml',hin',?_⟩;show left (met'.set n true)+(q'++[(n:Int)]).length=_;rw[List.length_append,List.length_singleton];omega
  have hkn:k=ns.length:=by omega
  subst hkn;rw[List.drop_length,inner]at hin';rw[← hin']at i1 i2 i4 i5 hrun hdrop hj;dsimp only at i1 i2 i4 i5 hrun hdrop hj;rw[List.cons_append]at i5;subst i5;rw[List.tail_cons]at hrun hj;refine go ?_;refine zTH intE (q:=(q0:Int)) (qs:=qs++t) (fun ad=>?_);refine go ?_;refine zB (f,met',qs++t,_,s') (Nat.lt_succ_self f) ⟨by show f≤_;omega,?_,hml',?_,j+1,hos',hrun,hj.2⟩
  ·show left met'+(qs++t).length≤f;simp only[List.length_cons,List.length_append]at hl' hf⊢;omega
  ·intro n hn;rcases List.mem_append.1 hn with h|h
   ·exact hq n (by simp[h])
   ·exact hnr n ((i3 n).1 h).1
 have hnil:queue=[]:=by
  cases queue with
  |nil=>rfl
  |cons a b=>simp at h1
 subst hnil;have hb:bfs g inn f met []=[]:=by cases f<;>rfl
 rw[hb,zAf]at hrun;refine go ?_;exact q_fin () (hv:=rfl) (hp:=trivial) (hk:=by rw[← hrun];exact .there _ (.there _ (SelL.all _)))
end Go.Proofs.YtpkieeggilkagaaGreat
namespace Go.Proofs.YtpkieeggilkagaaGreat
open Go.Ideal Gph
theorem GOK.rg{g:List (List Int)}(h:GOK g):∀l∈g,∀n∈l,Rg g n:=fun l hl n hn=>by
 obtain⟨i,hi⟩:=List.getElem?_of_mem hl;obtain⟨k,hk⟩:=List.getElem?_of_mem hn;have:=h.ok i l hi k n hk;exact⟨this.1,this.2.1⟩
theorem zPk{vg vin:Value}{g:List (List Int)}{inn:List Bool}{s:Int}:FnC Tryz.prog (.func 112) [vg,vin,.int .i64 s] [] [] [fSl (slE intE) vg g,fSl zCY vin inn]
 (fun y:Nat×Nat×Nat=>.func (.func 158) #[] #[ptr' y.1,ptr' y.2.2,ptr' y.2.1]) (fun _=>[]) (fun y=>[fRaw y.1 0 [vg],fRaw y.2.1 0 [vin],fRaw y.2.2 0 [.int .i64 s],fSl (slE intE) vg g,fSl zCY vin inn]) (fun _=>True):=by
 refine zE _ (isC 112) fun B w0=>?_;refine zR (E:=slE intE) (v:=vg) (xs:=g) (by simp) fun a1 c1 e1=>?_;refine zR (E:=zCY) (v:=vin) (xs:=inn) (by simp) fun a2 c2 e2=>?_;subst e1 e2;refine go ?_;intro b3 b4 b5;refine zK (zN (b:=b3)) (h:=?_);refine zK (zN (b:=b4)) (h:=?_);refine zK (zN (b:=b5)) (h:=?_);exact q_fin (b3,b4,b5) (hv:=rfl) (hp:=trivial)
theorem zNJ(m:Nat):zeros [.int .i64 0] m=(List.replicate m (0:Int)).map (Value.int .i64):=by rw[zCK,List.map_replicate]
theorem zHf{S α:Type}(f:S→α→S):∀(xs:List α) (s:S),zBu (fun s x=>(f s x,Out.normal)) s xs=(xs.foldl f s,.normal)
 |[],s=>rfl
 |x::xs,s=>by rw[zBu];exact zHf f xs (f s x)
abbrev zKy(b n:Nat):Value:=.slice (some ⟨b,0,some 0⟩) n n
theorem zJk{vg vin:Value}{g:List (List Int)}{inn:List Bool}(hG:GOK g)(hll:∀l∈g,l.length<9223372036854775808)(hin:inn.length=g.length):
 FnC Tryz.prog (.func 51) [vg,vin] [] [] [fSl (slE intE) vg g,fSl zCY vin inn] (fun b:Nat=>.tuple ⟨[zKy b g.length,.int .i64 ((partsN g inn g.length).2:Int)]⟩)
  (fun b=>[pt b (.cells ((partsN g inn g.length).1.map (.int .i64)))]) (fun _=>[]) (fun _=>True):=by
 refine zFV _ (isC 51) fun B w0=>?_;have hlen:=hG.len;refine go ?_;intro b4 b5;refine zNl g.length ⟨by omega,by omega,by omega⟩ fun bp=>?_;rw[zNJ];refine go ?_;refine zPy ?_;refine zM0 (fun x=>x.2.map dfr) (fun x=>g.length - x.1) (fun x:Nat×List Nat=>[(13,.int .i64 (x.1:Int))])
  (fun x=>[zRc x.2,pt b4 (.cells [zKy bp g.length]),pt b5 (.cells [.int .i64 ((partsN g inn x.1).2:Int)]),pt bp (.cells ((partsN g inn x.1).1.map (.int .i64)))]) (fun _=>[]) (fun x=>x.1≤g.length) (0,[]) (Nat.zero_le _)
  (hk:=by repeat (first|exact SelL.nil|(apply SelL.cons;(focus (repeat (first|exact Sel.here|apply Sel.there)))))) (body:=?_)
 rintro⟨k,rs⟩ hk;dsimp only at hk⊢;have hpk:=zFJ g inn k;have hst:=zEm g inn k;refine go ?_;refine if_d rfl (fun h1=>?_) (fun h1=>?_)
 ·refine go ?_;intro _ _ c hc;have hc':inB inn (k:Nat)=c:=by unfold inB;rw[Int.toNat_natCast,List.getD_eq_getElem?_getD,hc];rfl
  have hkl:k<(partsN g inn k).1.length:=by omega
  have same:¬(inB inn (k:Nat)=true∧(partsN g inn k).1.getD k 0≤0)→partsN g inn (k+1)=partsN g inn k:=fun h=>by rw[hst,zDQ,if_neg h]
  have hgd:(partsN g inn k).1.getD k 0=(partsN g inn k).1[k]:=by rw[List.getD_eq_getElem?_getD,List.getElem?_eq_getElem hkl];rfl
  refine go ?_;first|with_reducible refine g_d (fun h2=>?_) (fun h2=>?_)|with_reducible refine g_n (fun h2=>?_) (fun h2=>?_)|with_reducible refine g_b (fun h2=>?_) (fun h2=>?_)
  ·have hct:c=true:=by simpa using h2
   refine go ?_;refine zDw (o:=0+k*1) (cs:=(partsN g inn k).1.map (.int .i64)) (.int .i64 (partsN g inn k).1[k]) (by rw[Nat.zero_add,Nat.mul_one,List.getElem?_map,List.getElem?_eq_getElem hkl];rfl) ?_;refine go ?_;refine if_d rfl (fun h3=>?_) (fun h3=>?_)
   ·have e:=same (fun h=>by rw[hgd]at h;omega);refine go ?_;exact zDa (k+1,rs) (by show g.length - (k+1)<g.length - k;omega) (by show k+1≤_;omega) (ha:=by dsimp only;rw[e];repeat (first|exact AppR.nil|apply AppR.cons|exact AppR.self|exact AppR.app))
   refine go ?_;refine zA (zPk (g:=g) (inn:=inn) (s:=(k:Int))) (next:=fun y _=>?_);refine go ?_;have hkr:Rg g (k:Int):=⟨by omega,by omega⟩
   have hrr:=zMU (inn:=inn) hG.rg hkr;have hstep:partsN g inn (k+1)=(paint (partsN g inn k).1 (reachL g inn k) ((partsN g inn k).2+1:Nat),(partsN g inn k).2+1):=by
    rw[hst,zDQ,if_pos ⟨by rw[hc',hct],by rw[hgd];omega⟩]
   refine zSJ (val:=fun x:Int=>.int .i64 x) (fun(p:List Int) (n:Int)=>(p.set n.toNat (((partsN g inn k).2:Int)+1),Out.normal))
    (fun p=>[pt b4 (.cells [zKy bp g.length]),pt b5 (.cells [.int .i64 (((partsN g inn k).2:Int)+1)]),pt bp (.cells (p.map (.int .i64)))]) (fun _ p=>p.length=g.length) (partsN g inn k).1 hpk.1 (fun k s x hs hx _=>by simp[hs])
    (zNv (b3:=y.1) (b5:=y.2.2) (b4:=y.2.1) (s0:=(k:Int)) hG hll hin ⟨by omega,by omega⟩) (hb:=?_) (next:=?_) (hpan:=fun s x=>trivial)
   ·intro j p n lo L B w0 hp hn;have hnr:=hrr n (List.mem_of_getElem? hn);unfold Rg at hnr;obtain⟨n,rfl⟩:=Int.eq_ofNat_of_zero_le hnr.1;refine go ?_;refine zC4 (o:=0+n*1) (cs:=p.map (.int .i64)) (v:=.int .i64 (((partsN g inn k).2:Int)+1)) (cs':=(p.set ((n:Int).toNat) (((partsN g inn k).2:Int)+1)).map (.int .i64)) (by rw[List.map_set];simp) (by simp;omega) ?_;refine go ?_;exact zBp () rfl trivial trivial
   ·intro r;rw[zHf];dsimp only[List.cons_append,List.nil_append];refine go ?_;refine zRD (rs:=rs) (r:=r) (h:=?_);have e1:((reachL g inn (k:Nat)).foldl (fun(p:List Int) (n:Int)=>p.set n.toNat (((partsN g inn k).2:Int)+1)) (partsN g inn k).1)=(partsN g inn (k+1)).1:=by rw[hstep];rfl
    have e2:(((partsN g inn k).2:Int)+1)=((partsN g inn (k+1)).2:Int):=by rw[hstep];rfl
    rw[e1,e2];exact zDa (k+1,r::rs) (by show g.length - (k+1)<g.length - k;omega) (by show k+1≤_;omega)
  ·have hcf:c=false:=by simpa using h2
   have e:=same (fun h=>by rw[hc',hcf]at h;cases h.1);refine go ?_;exact zDa (k+1,rs) (by show g.length - (k+1)<g.length - k;omega) (by show k+1≤_;omega) (ha:=by dsimp only;rw[e];repeat (first|exact AppR.nil|apply AppR.cons|exact AppR.self|exact AppR.app))
 have hkl:k=g.length:=by omega
 subst hkl;refine go ?_;exact zMm (rs:=rs) bp (hv:=rfl) (hp:=trivial)
end Go.Proofs.YtpkieeggilkagaaGreat
namespace Go.Proofs.YtpkieeggilkagaaGreat
open Go.Ideal Gph
theorem zNA(m:Nat):zeros [.slice none 0 0] m=List.replicate m (.slice none 0 0):=zCK _ _
structure zUT where
 a:Option Addr
 n:Nat
 e:Int
theorem zOQ{vg vin:Value}{g:List (List Int)}{inn:List Bool}(hll:∀l∈g,l.length<9223372036854775808):
 FnC Tryz.prog (.func 26) [vg,vin] [] [] [fSl (slE intE) vg g,fSl zCY vin inn] (fun y:zUT=>.tuple ⟨[.slice y.a y.n y.n,.int .i64 y.e]⟩) (fun _=>[]) (fun _=>[])
  (fun y=>(y.e=0↔GOK g∧inn.length=g.length)∧(y.e=0→y.n=(partsN g inn g.length).2)∧(y.e≠0→y.n=0)):=by
 refine zE _ (isC 26) fun B w0=>?_;refine zR (E:=zCY) (v:=vin) (xs:=inn) (by simp) fun a2 c2 e2=>?_;subst e2;refine go ?_;intro b12;refine zK (zN (b:=b12)) (h:=?_);refine zX (fSl (slE zCY) (zKy b12 1) [inn]) (fun w hw=>zFH (v:=.slice a2 inn.length c2) (hw _ (by simp)) (hw _ (by simp))) ?_;refine zA (zHt (g:=g) (sets:=[inn]) hll (by simp)) (next:=fun r hr=>?_);refine go ?_;refine if_d rfl (fun h1=>?_) (fun h1=>?_)
 ·refine go ?_;exact q_fin ⟨none,0,r⟩ (hv:=rfl) (hp:=⟨⟨fun h=>absurd h h1,fun h=>absurd (hr.2 ⟨h.1,by simpa using h.2⟩) h1⟩,fun h=>absurd h h1,fun _=>rfl⟩)
 have hr0:r=0:=Decidable.not_not.1 h1;obtain⟨hG,hin⟩:=hr.1 hr0;have hin:inn.length=g.length:=by simpa using hin
 have hlen:=hG.len;have hpk:=zFJ g inn g.length;refine go ?_;refine zA (zJk (g:=g) (inn:=inn) hG hll hin) (next:=fun bp _=>?_);refine go ?_;refine zNl (partsN g inn g.length).2 ⟨by omega,by omega,by omega⟩ fun bl=>?_;rw[zNA];refine zQw intE (h:=?_);refine zK (zCm (b:=bp) (f:=0) (c:=g.length) (xs:=(partsN g inn g.length).1)) (h:=?_);rw[hpk.1];refine go ?_;refine zH (fun x=>g.length - x.1) (fun x:Nat×List (List Int)=>[(27,.int .i64 (x.1:Int))]) (fun x=>[zTi intE bl x.2]) (fun _=>[])
  (fun x=>x.1≤g.length∧x.2.length=(partsN g inn g.length).2∧∀xs∈x.2,xs.length≤x.1) (0,List.replicate (partsN g inn g.length).2 []) ⟨Nat.zero_le _,by simp,fun xs hx=>by rw[(List.mem_replicate.1 hx).2];simp⟩ (body:=?_)
 rintro⟨k,xss⟩ ⟨hk,hxl,hxs⟩;dsimp only at hk hxl hxs⊢;refine go ?_;refine if_d rfl (fun h2=>?_) (fun h2=>?_)
 ·have hkp:k<(partsN g inn g.length).1.length:=by omega
  refine go ?_;intro _ _ p hp;have hpr:=hpk.2.2 p (List.mem_of_getElem? hp);refine go ?_;refine if_d rfl (fun h3=>?_) (fun h3=>?_)
  ·obtain⟨p,rfl⟩:=Int.eq_ofNat_of_zero_le hpr.1;have hp1:((p:Int) - 1).toNat<xss.length:=by omega
   refine go ?_;refine zSF intE (b:=bl) (xss:=xss) (List.getElem?_eq_getElem hp1) (h:=fun vs v hvl hv=>?_);have hvk:=hxs _ (List.getElem_mem hp1);refine zDw (o:=0+((p:Int) - 1).toNat*1) (cs:=vs) v (by rw[Nat.zero_add,Nat.mul_one];exact hv) ?_;refine go ?_;intro b43;refine zAv (xs:=xss[((p:Int) - 1).toNat]) intE (k:Int) () (by omega) (next:=fun ad=>?_);refine go ?_;refine zC4 (o:=0+((p:Int) - 1).toNat*1) (cs:=vs) (v:=.slice ad (xss[((p:Int) - 1).toNat].length+1) (xss[((p:Int) - 1).toNat].length+1)) (cs':=vs.set ((p:Int) - 1).toNat (.slice ad (xss[((p:Int) - 1).toNat].length+1) (xss[((p:Int) - 1).toNat].length+1))) (by rw[Nat.zero_add,Nat.mul_one]) (by omega) ?_;refine zSt intE (b:=bl) (xss:=xss) (vs:=vs) (k:=((p:Int) - 1).toNat) (xs:=xss[((p:Int) - 1).toNat]++[(k:Int)]) hvl hp1 (h:=?_);refine go ?_;refine zB (k+1,xss.set ((p:Int) - 1).toNat (xss[((p:Int) - 1).toNat]++[(k:Int)])) (by show g.length - (k+1)<g.length - k;omega) ⟨by show k+1≤_;omega,by show(xss.set _ _).length=_;rw[List.length_set];exact hxl,fun xs hx=>?_⟩;rcases List.mem_or_eq_of_mem_set hx with hx|rfl
   ·have:=hxs xs hx;show _≤k+1;omega
   ·show _≤k+1;rw[List.length_append,List.length_singleton];omega
  ·refine go ?_;exact zB (k+1,xss) (by show g.length - (k+1)<g.length - k;omega) ⟨by show k+1≤_;omega,hxl,fun xs hx=>by have:=hxs xs hx;show _≤k+1;omega⟩
 refine go ?_;exact q_fin ⟨some ⟨bl,0,some 0⟩,(partsN g inn g.length).2,0⟩ (hv:=rfl) (hp:=⟨⟨fun _=>⟨hG,hin⟩,fun _=>rfl⟩,fun _=>rfl,fun h=>absurd rfl h⟩)
theorem zQk{vg vin:Value}{g:List (List Int)}{inn:List Bool}(hll:∀l∈g,l.length<9223372036854775808):
 FnC Tryz.prog (.func 27) [vg,vin] [] [] [fSl (slE intE) vg g,fSl zCY vin inn] (fun y:Bool×Int=>.tuple ⟨[.bool y.1,.int .i64 y.2]⟩) (fun _=>[]) (fun _=>[])
  (fun y=>(y.2=0↔GOK g∧inn.length=g.length)∧(y.2=0→y.1=zLb g inn)∧(y.2≠0→y.1=false)):=by
 refine zE _ (isC 27) fun B w0=>?_;refine zR (E:=zCY) (v:=vin) (xs:=inn) (by simp) fun a2 c2 e2=>?_;subst e2;refine go ?_;intro b12;refine zK (zN (b:=b12)) (h:=?_);refine zX (fSl (slE zCY) (zKy b12 1) [inn]) (fun w hw=>zFH (v:=.slice a2 inn.length c2) (hw _ (by simp)) (hw _ (by simp))) ?_;refine zA (zHt (g:=g) (sets:=[inn]) hll (by simp)) (next:=fun r hr=>?_);refine go ?_;refine if_d rfl (fun h1=>?_) (fun h1=>?_)
 ·refine go ?_;exact q_fin (false,r) (hv:=rfl) (hp:=⟨⟨fun h=>absurd h h1,fun h=>absurd (hr.2 ⟨h.1,by simpa using h.2⟩) h1⟩,fun h=>absurd h h1,fun _=>rfl⟩)
 have hr0:r=0:=Decidable.not_not.1 h1;obtain⟨hG,hin⟩:=hr.1 hr0;have hin:inn.length=g.length:=by simpa using hin
 have hlen:=hG.len;refine go ?_;refine zH (fun k=>g.length - k) (fun k:Nat=>[(23,.int .i64 (k:Int)),(6,.int .i64 (sizeN inn k:Int))]) (fun _=>[]) (fun _=>[]) (fun k=>k≤g.length∧zTd g inn k) 0 ⟨Nat.zero_le _,fun i hi=>by omega⟩ (body:=?_);rintro k ⟨hk,hdg⟩;have hsz:=zN7 inn k;have hsucc:=zKf inn k;refine go ?_;refine if_d rfl (fun h2=>?_) (fun h2=>?_)
 ·refine go ?_;refine zV (slE intE) (xs:=g) (next:=fun _ _ l (vl:Value) hl=>?_);have hl1:=hll l (List.mem_of_getElem? hl);have hgd:g.getD k []=l:=by rw[List.getD_eq_getElem?_getD,hl];rfl
  refine go ?_;intro _ _ c hc;have hc':inB inn (k:Nat)=c:=by unfold inB;rw[Int.toNat_natCast,List.getD_eq_getElem?_getD,hc];rfl
  rw[hc']at hsucc;refine go ?_;cases c with
  |false=>
   refine go ?_;refine zB (k+1) (by omega) ⟨by omega,fun i hi hii=>?_⟩ (hl:=⟨rfl,by rw[hsucc];rfl,by repeat (first|exact trivial|refine⟨rfl,?_⟩)⟩);by_cases e:i=k
   ·subst e;rw[hc']at hii;cases hii
   ·exact hdg i (by omega) hii
  |true=>
   refine go ?_;refine zH (fun j=>l.length - j) (fun j:Nat=>[(37,.int .i64 (j:Int)),(9,.int .i64 (zQY inn (l.take j):Int))]) (fun _=>[]) (fun _=>[]) (fun j=>j≤l.length) 0 (Nat.zero_le _) (body:=?_);intro j hj;refine go ?_;refine if_d rfl (fun h3=>?_) (fun h3=>?_)
   ·refine go ?_;intro _ _ n hn;have hnr:=hG.ok k l hl j n hn;obtain⟨n,rfl⟩:=Int.eq_ofNat_of_zero_le hnr.1;refine go ?_;intro _ _ d hd;have hd':inB inn (n:Nat)=d:=by unfold inB;rw[Int.toNat_natCast,List.getD_eq_getElem?_getD,hd];rfl
    have hstep:zQY inn (l.take (j+1))=zQY inn (l.take j)+if d then 1 else 0:=by
     rw[zQY,zr hn,List.filter_append,List.length_append,← zQY];congr 1;simp only[List.filter_cons,List.filter_nil,hd'];split<;>rfl
    have hdl:zQY inn (l.take j)≤j:=by
     have:=List.length_filter_le (inB inn) (l.take j);rw[List.length_take]at this;unfold zQY;omega
    refine go ?_;cases d with
    |false=>
     refine go ?_;exact zB (j+1) (by omega) (by omega) (hl:=⟨rfl,by rw[hstep];rfl,by repeat (first|exact trivial|refine⟨rfl,?_⟩)⟩)
    |true=>
     refine go ?_;exact zB (j+1) (by omega) (by omega) (hl:=⟨rfl,by rw[hstep];rfl,by repeat (first|exact trivial|refine⟨rfl,?_⟩)⟩)
   have hjl:j=l.length:=by omega
   subst hjl;rw[List.take_length];refine go ?_;refine if_d rfl (fun h4=>?_) (fun h4=>?_)
   ·refine go ?_;refine q_fin (false,0) (hv:=rfl) (hp:=⟨⟨fun _=>⟨hG,hin⟩,fun _=>rfl⟩,fun _=>?_,fun h=>absurd rfl h⟩);refine(zFf fun h=>h4 ?_).symm;have:=h.1 k (by omega) hc';rw[hgd]at this;rw[this];rfl
   refine go ?_;refine zB (k+1) (by omega) ⟨by omega,fun i hi hii=>?_⟩ (hl:=⟨rfl,by rw[hsucc];rfl,by repeat (first|exact trivial|refine⟨rfl,?_⟩)⟩);by_cases e:i=k
   ·subst e;rw[hgd];omega
   ·exact hdg i (by omega) hii
 have hkl:k=g.length:=by omega
 subst hkl;refine go ?_;refine zA (zJk (g:=g) (inn:=inn) hG hll hin) (next:=fun bp _=>?_);refine go ?_;first|with_reducible refine g_d (fun h5=>?_) (fun h5=>?_)|with_reducible refine g_n (fun h5=>?_) (fun h5=>?_)|with_reducible refine g_b (fun h5=>?_) (fun h5=>?_)
 ·refine go ?_;refine q_fin (false,0) (hv:=rfl) (hp:=⟨⟨fun _=>⟨hG,hin⟩,fun _=>rfl⟩,fun _=>?_,fun h=>absurd rfl h⟩);exact(zFf fun h=>by have:=h.2.1;omega).symm
 refine go ?_;refine q_fin (decide (((partsN g inn g.length).2:Int)=1),0) (hv:=rfl) (hp:=⟨⟨fun _=>⟨hG,hin⟩,fun _=>rfl⟩,fun _=>?_,fun h=>absurd rfl h⟩);rw[Bool.eq_iff_iff,decide_eq_true_iff,zIB];exact⟨fun h=>⟨hdg,by omega,by omega⟩,fun h=>by have:=h.2.2;omega⟩
end Go.Proofs.YtpkieeggilkagaaGreat
namespace Go.Proofs.YtpkieeggilkagaaGreat
open Go.Ideal Gph
def mkd(grid:List Int)(set:Nat)(cells:List Int):List Bool:=cells.foldl (fun m c=>m.set c.toNat (set.testBit (sy grid c))) (List.replicate grid.length false)
theorem zQg(grid:List Int)(set:Nat)(cells:List Int):(mkd grid set cells).length=grid.length:=by
 have:∀(cells:List Int) (m:List Bool),(cells.foldl (fun m c=>m.set c.toNat (set.testBit (sy grid c))) m).length=m.length:=by
  intro cells;induction cells with
  |nil=>intro m;rfl
  |cons c cells ih=>intro m;rw[List.foldl_cons,ih,List.length_set]
 rw[mkd,this,List.length_replicate]
theorem zPb{grid:List Int}{set:Nat}{cells:List Int}{k:Nat}{c:Int}(h:cells[k]? =some c):mkd grid set (cells.take (k+1))=(mkd grid set (cells.take k)).set c.toNat (set.testBit (sy grid c)):=by
 rw[mkd,zr h,List.foldl_append];rfl
noncomputable def zD4(nbs:List (List Int))(mk:List Bool)(loop:Bool):Bool:=if loop=true∧(partsN nbs mk nbs.length).2≠0 then zLb nbs mk else decide ((partsN nbs mk nbs.length).2≤1)
theorem zKr{b6 b8 b11 bm:Nat}{vg:Value}{grid:List Int}{set:Nat}{m:List Bool}{c:Nat}(hg:zDJ grid)(hc:c<grid.length)(hm:m.length=grid.length)(hs:set<9223372036854775808):
 FnC Tryz.prog (.func 132) [.int .i64 (c:Int)] [ptr' b8,ptr' b6,ptr' b11] [pt bm (.cells (m.map .bool))] [fRaw b8 0 [.int .i64 (set:Int)],fRaw b6 0 [vg],fRaw b11 0 [zKy bm grid.length],fSl intE vg grid]
  (fun _:Unit=>.tuple ⟨[]⟩) (fun _=>[pt bm (.cells ((m.set c (set.testBit (sy grid c))).map .bool))]) (fun _=>[]) (fun _=>True):=by
 refine zE _ (isC 132) fun B w0=>?_;refine go ?_;intro _ _ x hx;have hxx:=hg.sym x (List.mem_of_getElem? hx);obtain⟨x,rfl⟩:=Int.eq_ofNat_of_zero_le hxx.1;refine zA (zCE (set:=set) (sym:=x) hs (by omega)) (next:=fun _ _=>?_);refine go ?_;refine zC4 (o:=0+c*1) (cs:=m.map .bool) (v:=.bool (set.testBit x)) (cs':=(m.set c (set.testBit (sy grid c))).map .bool) (by rw[List.map_set,zHR hx];simp) (by simp;omega) ?_;refine go ?_;exact q_fin () (hv:=rfl) (hp:=trivial)
theorem zFY{vn vg vc:Value}{nbs:List (List Int)}{grid cells:List Int}{set:Nat}{loop:Bool}(hG:GOK nbs)(hll:∀l∈nbs,l.length<9223372036854775808)(hgl:grid.length=nbs.length)(hg:zDJ grid)(hc:zCA grid cells)(hs:set<9223372036854775808):
 FnP Tryz.prog 86 [vn,vg,vc,.int .i64 (set:Int),.bool loop] [fSl (slE intE) vn nbs,fSl intE vg grid,fSl intE vc cells] (.bool (zD4 nbs (mkd grid set cells) loop)):=by
 refine zE _ (isC 86) fun B w0=>?_;have hgn:=hG.len;have hcl:=hc.len;refine zR (E:=intE) (v:=vg) (xs:=grid) (by simp) fun a2 c2 e2=>?_;subst e2;refine go ?_;intro b6 b8;refine zK (zN (b:=b6)) (h:=?_);refine zK (zN (b:=b8)) (h:=?_);refine go ?_;refine zNl grid.length ⟨by omega,by omega,by omega⟩ fun bm=>?_;rw[zGP];refine go ?_;intro b11;refine go ?_;refine zK (zN (b:=b11)) (h:=?_);refine go ?_;refine zH (fun k=>cells.length - k) (fun k:Nat=>[(25,.int .i64 (k:Int))]) (fun k=>[pt bm (.cells ((mkd grid set (cells.take k)).map .bool))]) (fun _=>[]) (fun k=>k≤cells.length) 0 (Nat.zero_le _)
  (hk:=by repeat (first|exact SelL.nil|(apply SelL.cons;(focus (repeat (first|exact Sel.here|apply Sel.there)))))) (body:=?_)
 intro k hk;have hml:=zQg grid set (cells.take k);refine go ?_;refine if_d rfl (fun h1=>?_) (fun h1=>?_)
 ·refine go ?_;intro _ _ c hck;have hcc:=hc.cell c (List.mem_of_getElem? hck);have hmt:=zPb (grid:=grid) (set:=set) hck;obtain⟨c,rfl⟩:=Int.eq_ofNat_of_zero_le hcc.1;rw[Int.toNat_natCast]at hmt;refine go ?_;refine zA (zKr (b6:=b6) (b8:=b8) (b11:=b11) (bm:=bm) (set:=set) (m:=mkd grid set (cells.take k)) (c:=c) hg (by omega) hml hs) (next:=fun _ _=>?_);rw[← hmt];refine go ?_;exact zB (k+1) (by omega) (by omega)
 have hkl:k=cells.length:=by omega
 subst hkl;rw[List.take_length]at hml⊢;refine zK (zMD (b:=bm) (f:=0) (c:=grid.length) (xs:=mkd grid set cells)) (h:=?_);rw[hml];refine go ?_;refine zA (zOQ (g:=nbs) (inn:=mkd grid set cells) hll) (next:=fun y hy=>?_);obtain⟨a,n,e⟩:=y;have he:e=0:=hy.1.2 ⟨hG,by rw[hml,hgl]⟩;subst he;have hn:=hy.2.1 rfl;dsimp only at hn;cases loop with
 |false=>
  refine go ?_;refine q_fin () (hv:=?_) (hp:=trivial);rw[zD4,if_neg (by simp),← hn];show Value.bool (decide ((n:Int)≤1))=_;rw[show decide ((n:Int)≤1)=decide (n≤1)from decide_eq_decide.2 (by omega)]
 |true=>
  refine go ?_;refine if_d rfl (fun h2=>?_) (fun h2=>?_)
  ·have h2:(n:Int)=0:=h2;refine go ?_;refine q_fin () (hv:=?_) (hp:=trivial);rw[zD4,if_neg (by rw[← hn];exact fun h=>h.2 (by omega)),← hn];show Value.bool (decide ((n:Int)≤1))=_;rw[show decide ((n:Int)≤1)=decide (n≤1)from decide_eq_decide.2 (by omega)]
  have h2:¬(n:Int)=0:=h2;refine go ?_;refine zA (zQk (g:=nbs) (inn:=mkd grid set cells) hll) (next:=fun z hz=>?_);obtain⟨r,e⟩:=z;have he:e=0:=hz.1.2 ⟨hG,by rw[hml,hgl]⟩;subst he;have hr:=hz.2.1 rfl;dsimp only at hr;subst hr;refine go ?_;refine q_fin () (hv:=?_) (hp:=trivial);rw[zD4,if_pos ⟨rfl,by rw[← hn];omega⟩];rfl
end Go.Proofs.YtpkieeggilkagaaGreat
