/-
  Part LibAFX.
-/
import Derived.Test.YtoilpafpgndilaaGreatLibACX
set_option linter.all false
set_option maxRecDepth 10000
set_option maxHeartbeats 4000000
namespace Go.Proofs.YtoilpafpgndilaaGreat
open Go.Ideal Kd Canon
def BD:Enc Int:=⟨1,Unit,λx _=>[.int .u8 x],λ_ _=>[],λ_ _=>rfl⟩
def wM(l:List Int)(i j:Nat):List Int:=(l.set i (aB l (j:Int))).set j (aB l (i:Int))
theorem Xp(l:List Int)(i j:Nat):(wM l i j).length=l.length:=by unfold wM;rw[pV,pV]
theorem Xq{l:List Int}{i:Nat}(h:i<l.length):aB l (i:Int)=l[i]:=ji (bP h)
theorem ajs{l:List Int}{i j:Nat}(hi:i<l.length)(hj:j<l.length):(wM l i j).Perm l:=by
 unfold wM;rw[Xq hi,Xq hj];exact List.set_set_perm hi hj
theorem ajt{l:List Int}{i j:Nat}(hi:i<l.length)(hj:j<l.length){v:Int}(v0:0<=v):aB (wM l i j) v=if v=(j:Int)then aB l (i:Int)else if v=(i:Int)then aB l (j:Int)else aB l v:=by
 unfold wM;have h1:=FB (l:=l.set i (aB l (j:Int))) (s:=(j:Int)) (x:=aB l (i:Int)) (u:=v) (by omega) (by rw[pV];omega) v0;have h2:=FB (l:=l) (s:=(i:Int)) (x:=aB l (j:Int)) (u:=v) (by omega) (by omega) v0;rw[kJ]at h1 h2;rw[h1,h2]
theorem aju{m:Nat}{cl l:List Int}(h:lI m cl l){i j:Nat}(hi:i<m)(hj:j<m)(hc:aB cl (i:Int)=aB cl (j:Int)):lI m cl (wM l i j):=by
 have hl:=h.p.len;have hp:=ajs (l:=l) (i:=i) (j:=j) (by omega) (by omega);refine⟨⟨by rw[Xp,hl],λx hx=>h.p.fG x (hp.mem_iff.1 hx),hp.nodup_iff.2 h.p.nd⟩,λv v0 v1=>?_⟩;rw[ajt (by omega) (by omega) v0];split
 ·rename_i e;rw[h.c _ (by omega) (by omega),e,hc]
 ·split
  ·rename_i e;rw[h.c _ (by omega) (by omega),e,hc]
  ·exact h.c v v0 v1
theorem ajv{G:List (List Int)}{cl turn:List Int}{pick m:Nat}{vg jR vt:Value}(hcl:cl.length=m)(hm:m<=4096)(hG:0<G.length)(hGl:G.length<=1000000)(hp:pick<65536)(ht:turn.length<=4096)(hb:∀x∈turn,0<=x/\x<256)(hm0:turn≠[]->0<m):
 bA Tryz.prog (.func 23) [.agg ⟨[vg,jR]⟩,.int .u16 (pick:Int),vt] [] [] [ai (ak ae) vg G,ai ae jR cl,ai BD vt turn] (λy:Value×Value×List Int=>.agg ⟨[y.1,y.2.1]⟩) (λ_=>[])
  (λy=>[ai ae y.1 (G.getD (pick%G.length) []),ai ae y.2.1 y.2.2]) (λy=>lI m cl y.2.2):=by
 refine aM _ (aP 23) λB w0=>?_;refine aS (E:=ak ae) (v:=vg) (xs:=G) (by simp) λag cg eg=>?_;subst eg;refine aS (E:=ae) (v:=jR) (xs:=cl) (by simp) λac cc ec=>?_;subst ec;refine aS (E:=BD) (v:=vt) (xs:=turn) (by simp) λuS ct et=>?_;subst et;refine go ?_;intro b3 b6;refine bn (eX (b:=b3)) (h:=?_);refine go ?_;refine(fA rfl rfl (CR (k:=.i64) (m:=(pick:Int)) (by kernel_rfl:Tryz.prog.underlying 60=some (.int .u16)) (by kernel_rfl) rfl (by rw[<- Al];exact EF (by omega) (by omega)))).h ?_;refine go ?_;refine(fA rfl rfl (AC rfl rfl (by omega))).h ?_;rw[show((pick:Int)).tmod (G.length:Int)=((pick%G.length:Nat):Int)from(Int.ofNat_tmod pick G.length).symm];refine go ?_;refine bi (ak ae) (xs:=G) (k:=pick%G.length) (h1:=zO _ hG) (next:=λ_ _ x (vx:Value) hx=>?_);refine aS (E:=ae) (v:=vx) (xs:=x) (by simp) λax cx ex=>?_;subst ex;have hxd:G.getD (pick%G.length) []=x:=j5 hx;rw[hxd];refine go ?_;intro b7;refine go ?_;refine gH ae ?_;rw[hcl];refine aU (λy:Nat×Value=>m - y.1) (λy=>[(27,.int .i64 (y.1:Int))]) (λy=>[pt b7 (.cells [.slice ax x.length cx,y.2]),ap ae y.2 ((upTo' m).take y.1)]) (λ_=>[]) (λy=>y.1<=m) (0,.slice none 0 0) (bR _) (hk:=by repeat (first|exact aI.nil|(apply aI.cons;(focus (repeat (first|exact az.here|apply az.there)))))) (body:=?_);rintro⟨j,v2⟩ hj;dsimp only at hj⊢;have yc:((upTo' m).take j).length=j:=by rw[gT,lZ];omega
 refine go ?_;refine aA rfl (λh1=>?_) (λh1=>?_)
 ·have hnx:(upTo' m)[j]? =some (j:Int):=by
   unfold upTo';rw[dm,pU (by omega)];rfl
  refine go ?_;intro V4;refine go ?_;refine fB (xs:=(upTo' m).take j) ae (j:Int) () (by omega) (next:=λad=>?_);rw[<- bZ hnx];refine go ?_;exact aN (j+1,.slice ad (((upTo' m).take j).length+1) (((upTo' m).take j).length+1)) (by show m - (j+1)<m - j;omega) (by show j+1<=m;omega)
 have iR:m=j:=by omega
 subst iR;rw[ry (by rw[lZ];exact bT _)];refine pO (E:=ae) (v:=v2) (xs:=upTo' m) λa2 hv=>?_;subst hv;rw[lZ];refine go ?_;refine aU (λy:Nat×List Int=>turn.length - y.1) (λy=>[(39,.int .i64 (y.1:Int))]) (λy=>[pt b7 (.cells [.slice ax x.length cx,.slice a2 m m]),ap ae (.slice a2 m m) y.2]) (λ_=>[]) (λy=>y.1<=turn.length/\lI m cl y.2) (0,upTo' m) ⟨bR _,lI.ident cl m⟩ (hk:=by repeat (first|exact aI.nil|(apply aI.cons;(focus (repeat (first|exact az.here|apply az.there)))))) (body:=?_);rintro⟨j,l⟩ ⟨hj,hC⟩;dsimp only at hj hC⊢;have hll:=hC.p.len;refine go ?_;refine aA rfl (λh1=>?_) (λh1=>?_)
 rotate_left
 ·refine bn (A:=ap ae (.slice a2 m m) l) (fs:=[ai ae (.slice a2 m m) l]) gz (h:=?_);refine go ?_;exact ah (.slice ax x.length cx,.slice a2 m m,l) (hv:=rfl) (hp:=hC)
 refine go ?_;refine bi BD (xs:=turn) (k:=j) (next:=λ_ _ x8 (_:Unit) h8=>?_);have hb8:=hb x8 (aZ h8);obtain⟨xn,rfl⟩:=jA hb8.1;have hm1:0<m:=hm0 (λe=>by rw[e]at h8;cases h8);refine go ?_;refine(fA rfl rfl (CR (k:=.i64) (m:=(xn:Int)) (by kernel_rfl:Tryz.prog.underlying 5=some (.int .u8)) (by kernel_rfl) rfl (by rw[<- Al];exact EF (by omega) (by omega)))).h ?_;refine go ?_;have hq1:((xn:Int)).tdiv 16=((xn/16:Nat):Int):=(Int.ofNat_tdiv xn 16).symm;have hq2:((xn/16:Nat):Int).tmod (m:Int)=((xn/16%m:Nat):Int):=(Int.ofNat_tmod (xn/16) m).symm;have hq3:((xn:Int)).tmod 16=((xn%16:Nat):Int):=(Int.ofNat_tmod xn 16).symm;have hq4:((xn%16:Nat):Int).tmod (m:Int)=((xn%16%m:Nat):Int):=(Int.ofNat_tmod (xn%16) m).symm;have hi1:xn/16%m<m:=zO _ hm1;have hk1:xn%16%m<m:=zO _ hm1;refine(fA rfl rfl (EN rfl rfl (by decide) (by rw[hq1];omega) (by rw[hq1];omega))).h ?_;rw[hq1];refine go ?_;refine(fA rfl rfl (AC rfl rfl (by omega))).h ?_;rw[hq2];refine go ?_;refine(fA rfl rfl (CR (k:=.i64) (m:=(xn:Int)) (by kernel_rfl:Tryz.prog.underlying 5=some (.int .u8)) (by kernel_rfl) rfl (by rw[<- Al];exact EF (by omega) (by omega)))).h ?_;refine go ?_;refine(fA rfl rfl (AC rfl rfl (by decide))).h ?_;rw[hq3];refine go ?_;refine(fA rfl rfl (AC rfl rfl (by omega))).h ?_;rw[hq4];generalize xn/16%m=i at *;generalize xn%16%m=kk at *;refine go ?_;intro _ _ u hu;refine go ?_;intro _ _ w hw;have Pw:=ji hu;have hwg:=ji hw;refine go ?_;refine aA rfl (λh2=>?_) (λh2=>?_)
 rotate_left
 ·refine go ?_;exact aN (j+1,l) (by show turn.length - (j+1)<turn.length - j;omega) ⟨by show j+1<=_;omega,hC⟩
 have hC2:=aju hC hi1 hk1 (by rw[Pw,hwg];exact h2);have LV:l[kk]? =some (aB l (kk:Int)):=by
  have:=rW (p:=l) (c:=(kk:Int)) (by omega) (by omega)
  rwa [kJ]at this
 have hgi:l[i]? =some (aB l (i:Int)):=by
  have:=rW (p:=l) (c:=(i:Int)) (by omega) (by omega)
  rwa [kJ]at this
 refine adE (v:=.slice a2 m m) (xs:=l) (by omega) λbb f pre hf ev=>?_;obtain rfl:a2=some ⟨bb,pre.length,some f⟩:=by injection ev
 refine go ?_;refine qh (b:=bb) (o:=pre.length+kk*1) (cs:=pre++l.map (.int .i64)) (.int .i64 (aB l (kk:Int))) (TS LV) ?_;refine go ?_;refine qh (b:=bb) (o:=pre.length+i*1) (cs:=pre++l.map (.int .i64)) (.int .i64 (aB l (i:Int))) (TS hgi) ?_;refine go ?_;refine(MG (b:=bb) (o:=pre.length+i*1) (cs:=pre++l.map (.int .i64)) (vs:=[.int .i64 (aB l (kk:Int))]) (c:=pre++(l.set i (aB l (kk:Int))).map (.int .i64)) rfl rfl rfl rfl rfl (by repeat (first|exact az.here|apply az.there)) (by rw[Hl _ _ _ (by rw[iH,bY];omega),TT]) (by repeat (first|exact yZ|refine AJ rfl (by repeat (first|exact az.here|apply az.there)) rfl rfl ?_))).h ?_;refine go ?_;refine qI (b:=bb) (o:=pre.length+kk*1) (cs:=pre++(l.set i (aB l (kk:Int))).map (.int .i64)) (v:=.int .i64 (aB l (i:Int))) (cs':=pre++(wM l i kk).map (.int .i64)) (by rw[TT];rfl) (by rw[iH,bY,pV];omega) ?_;refine adF (b:=bb) (f:=f) (m:=m) (pre:=pre) (xs:=wM l i kk) (by rw[Xp];exact hll.symm) hf ?_;refine go ?_;exact aN (j+1,wM l i kk) (by show turn.length - (j+1)<turn.length - j;omega) ⟨by show j+1<=_;omega,hC2⟩
