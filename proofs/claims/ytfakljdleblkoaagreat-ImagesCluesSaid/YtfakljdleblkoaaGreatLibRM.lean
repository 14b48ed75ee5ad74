/-
  Images of puzzles, walked: the clues, one after the other; Puzzle.
-/
import Derived.Test.YtfakljdleblkoaaGreatLibQM
set_option linter.all false
set_option maxRecDepth 10000
set_option maxHeartbeats 4000000
namespace Go.Proofs.YtfakljdleblkoaaGreat
open Go.Ideal Kd Canon
theorem alL{bk bs bp:Nat}{k:aU}{s t:List Int}{p:List Clue}{vh vs vr vc vu gh gc vn vl sc st vp:Value}(hK:bF k)(hk:gB k s t)(hQ:iQ k p):
 JL Tryz.prog Eh BS (.func 68) [] [ptr' bp,ptr' bk,ptr' bs] [bz bp 0 [vp],bz bk 0 (kG k vh vs vr vc vu gh gc vn vl),bz bs 0 [sc,st],ah bG vp p,ah ae sc s,ah dX vc k.decl.bI,ah (aB (aB ae)) vl k.lists] (λxs=>xs.map kJ=p.map (gF k s)):=by
 intro S inv ok step s0 ny y1 y2 F' h0 hok hy;rw[bX,bX,bX,bX,bX,bX,bX,bH];have hpl:=hQ.len;have hsl:=hk.pc.len;have hn:=hK.pO;have Gz:∀r∈k.decl.regions,yj (bE k.decl) r.lists:=λr hr=>(hK.typ.BH r hr).1.2;have GA:=Ww hK.bM Gz;have hlin:=O0 hK.bM Gz;rw[<- hK.lists]at GA hlin;refine aK Zg alE λB w0=>?_;refine bY (E:=bG) (v:=vp) (xs:=p) (by simp) λYm cp ep=>?_;subst ep;refine bY (E:=ae) (v:=sc) (xs:=s) (by simp) λQO QR esc=>?_;subst esc;refine go ?_;refine bQ (λy:Nat×List CE×S=>p.length - y.1) (λy=>[(17,.int .i64 (y.1:Int))]) (λy=>inv y.2.2) (λ_=>[]) (λy=>y.1<=p.length/\ok y.2.1 y.2.2/\y.2.1.map kJ=(p.take y.1).map (gF k s)/\∀rest,bS step s0 (y.2.1++rest)=bS step y.2.2 rest) (0,[],s0) ⟨dK _,h0,rfl,λ_=>rfl⟩ (body:=?_);rintro⟨jj,dx,dW⟩ ⟨hj,hos,jT,hrun⟩;dsimp only at hj hos jT hrun⊢;refine go ?_;refine aJ rfl (λh1=>?_) (λh1=>?_)
 rotate_left
 ·have iM:jj=p.length:=by omega
  subst iM;rw[eH]at jT;have hr2:=hrun [];rw[iK]at hr2;refine go ?_;exact aj dx (hv:=rfl) (hp:=jT) (hk:=by rw[hr2];exact aO.all _)
 refine go ?_;refine bZ bG (xs:=p) (next:=λ_ _ g (vg:Value) hg=>?_);have hgm:=aR hg;obtain⟨c,L,j,i,l,l',G⟩:=vN hK hk (hQ.right g hgm);obtain⟨GD,Lx,dQ⟩:=g;have hcl:0<=GD:=G.aN;have alM:Lx=(j:Int):=G.at_;obtain⟨cn,rfl⟩:=eO hcl;subst alM
 have hcc:k.decl.bI[cn]? =some c:=by have:=G.hc;dsimp only at this;rwa [eX]at this
 have alN:=(aW.1 hcc).1;have QB:=hK.fP c (aR hcc);obtain⟨fn,hfn⟩:=eO QB.1;have QW:=G.hL;rw[hfn,eX]at QW;have Zi:=aR QW;have anx:=GA L Zi;have Bn:∀x∈L,x.length<=4096:=λx hx=>(hlin L Zi x hx).1;have hlr:=G.fP.dZ l (aR G.hl);have hlen:=Bn l (aR G.hl);have hil:(img s l).length=l.length:=Dz s l;have lJ:=G.goes.gW G.fP;have hjl:=(aW.1 G.hl).1;have anz:=(aW.1 G.hl').1;refine go ?_;intro b6;refine go ?_;refine bZ dX (xs:=k.decl.bI) (k:=cn) (next:=λ_ _ c2 (_:Unit) hc2=>?_);rw[hcc]at hc2;obtain rfl:c=c2:=Option.some.inj hc2;refine go ?_;rw[hfn];refine go ?_;refine bZ (aB (aB ae)) (xs:=k.lists) (k:=fn) (next:=λ_ _ L2 (vL:Value) hL2=>?_);rw[QW]at hL2;obtain rfl:L=L2:=Option.some.inj hL2;refine bY (E:=aB ae) (v:=vL) (xs:=L) (by simp) λaL cL eL=>?_;subst eL;refine go ?_;refine bZ (aB ae) (xs:=L) (k:=j) (next:=λ_ _ l2 (uA:Value) hl2=>?_);rw[G.hl]at hl2;obtain rfl:l=l2:=Option.some.inj hl2;refine bY (E:=ae) (v:=uA) (xs:=l) (by simp) λal cl el=>?_;subst el;refine go ?_;refine lY ae ?_;refine bQ (λy:Nat×Value=>l.length - y.1) (λy=>[(40,.int .i64 (y.1:Int)),(9,y.2)]) (λy=>ap ae y.2 (img s (l.take y.1))::pt b6 (.cells [.int .i64 (cn:Int),.int .i64 (j:Int),vg])::inv dW) (λ_=>[]) (λy=>y.1<=l.length) (0,.slice none 0 0) (dK _) (hk:=by repeat (first|exact aO.all _|exact aO.nil|(apply aO.cons;(focus (repeat (first|exact az.here|apply az.there)))))) (body:=?_);rintro⟨q,v9⟩ hq;dsimp only at hq⊢;have hql:(img s (l.take q)).length=q:=by rw[Dz,iL];omega
 refine go ?_;refine aJ rfl (λh2=>?_) (λh2=>?_)
 ·refine go ?_;intro _ _ x hx;have nY:=hlr x (aR hx);obtain⟨xn,rfl⟩:=eO nY.1;refine go ?_;intro _ _ z hz;have hzg:=jJ hz;have htk:img s (l.take (q+1))=img s (l.take q)++[z]:=by
   unfold img;rw[gZ hx,di,j5,hzg]
  refine go ?_;intro b50;refine go ?_;refine jO (xs:=img s (l.take q)) ae z () (by omega) (next:=λad=>?_);rw[<- htk];refine go ?_;exact bi (q+1,.slice ad ((img s (l.take q)).length+1) ((img s (l.take q)).length+1)) (by show l.length - (q+1)<l.length - q;omega) (by show q+1<=_;omega)
 have hqe:q=l.length:=by omega
 subst hqe;rw[eH]at hql⊢;refine BD (E:=ae) (v:=v9) (xs:=img s l) λa9 hv=>?_;subst hv;refine go ?_;refine gG (λc0=>?_) (λc0=>?_)
 rotate_left
 ·have hcf:c.family=0:=by omega
  have hjs:j<s.length:=by
   have:=G.fP.len (by unfold jQ;simp[hcf]);omega
  refine go ?_;intro _ _ iz hiz;have hig:=jJ hiz;obtain rfl:iz=(i:Int):=by
   have:=lJ;unfold gW at this;rw[if_pos (by unfold jQ;simp[hcf])]at this;omega
  refine go ?_;refine bZ (aB ae) (xs:=L) (k:=i) (next:=λ_ _ l2 (uA:Value) hl2=>?_);rw[G.hl']at hl2;obtain rfl:l'=l2:=Option.some.inj hl2;refine go ?_;refine ak (Aa (a:=a9) (xs:=img s l) (ys:=l') (by rw[hil];omega)) (next:=λ_ _=>?_);refine go ?_;refine ak (D8 (a:=a9) (xs:=img s l) (by rw[hil];omega)) (next:=λ_ _=>?_);generalize hxd:(((⟨(cn:Int),(i:Int),dQ⟩,vg),gD s l l'):CE)=x;have hnx:(p.take (jj+1)).map (gF k s)=(p.take jj).map (gF k s)++[kJ x]:=by
   rw[gZ hg,di,j5,<- hxd,G.gF];rfl
  have hX:(dx++x::mg ((p.drop (jj+1)).map (gF k s))).map kJ=p.map (gF k s):=by
   rw[di,fI,Lv,jT];conv=>rhs;rw[<- mM (jj+1) p,di,hnx,ed]
   rfl
  have gJ:=hy _ dW _ _ hos hX;rw[show Eh x=[pK ⟨(cn:Int),(i:Int),dQ⟩ vg,.bool (gD s l l')]by rw[<- hxd];rfl,show BS x=[ah ae vg dQ]by rw[<- hxd];rfl]at gJ;rw[bX,bH]at gJ;have hrl:(img s l).reverse.length=(img s l).length:=Ch;by_cases e0:img s l=l'
  ·rw[fQ e0];have htb:gD s l l'=false:=by unfold gD;simp[e0]
   rw[htb]at gJ;refine go ?_;refine ak gJ (next:=λ_ _=>?_);cases hst:(step dW x).2 with
   |true=>
    have hs1:step dW x=((step dW x).1,true):=Prod.ext rfl hst;refine go ?_;refine bi (jj+1,dx++[x],(step dW x).1) (by show p.length - (jj+1)<p.length - jj;omega) ⟨by show jj+1<=_;omega,hok _ dW _ _ hos hX hst,?_,λrest=>?_⟩
    ·show(dx++[x]).map kJ=_;rw[di,j5,jT];exact hnx.symm
    ·show bS step s0 (dx++[x]++rest)=_;rw[ed,hrun];show bS step dW (x::rest)=_;rw[bS,hs1]
   |false=>
    have hs1:step dW x=((step dW x).1,false):=Prod.ext rfl hst;have hr:=hrun (x::mg ((p.drop (jj+1)).map (gF k s)));rw[bS,hs1]at hr;dsimp only at hr;refine go ?_;exact aj (dx++x::mg ((p.drop (jj+1)).map (gF k s))) (hv:=rfl) (hp:=hX) (hk:=by rw[hr];first|exact aO.all _|exact aO.self _ _)
  ·rw[dM e0];have htb:gD s l l'=decide ((img s l).reverse=l'):=by unfold gD;simp[e0]
   rw[htb]at gJ;refine go ?_;refine bZ (aB ae) (xs:=L) (k:=i) (next:=λ_ _ l3 (Lt:Value) hl3=>?_);rw[G.hl']at hl3;obtain rfl:l'=l3:=Option.some.inj hl3;refine go ?_;rw[<- hrl];refine ak (Aa (a:=a9) (xs:=(img s l).reverse) (ys:=l') (by rw[hrl,hil];omega)) (next:=λ_ _=>?_);refine go ?_;refine ak gJ (next:=λ_ _=>?_);cases hst:(step dW x).2 with
   |true=>
    have hs1:step dW x=((step dW x).1,true):=Prod.ext rfl hst;refine go ?_;refine bi (jj+1,dx++[x],(step dW x).1) (by show p.length - (jj+1)<p.length - jj;omega) ⟨by show jj+1<=_;omega,hok _ dW _ _ hos hX hst,?_,λrest=>?_⟩
    ·show(dx++[x]).map kJ=_;rw[di,j5,jT];exact hnx.symm
    ·show bS step s0 (dx++[x]++rest)=_;rw[ed,hrun];show bS step dW (x::rest)=_;rw[bS,hs1]
   |false=>
    have hs1:step dW x=((step dW x).1,false):=Prod.ext rfl hst;have hr:=hrun (x::mg ((p.drop (jj+1)).map (gF k s)));rw[bS,hs1]at hr;dsimp only at hr;refine go ?_;exact aj (dx++x::mg ((p.drop (jj+1)).map (gF k s))) (hv:=rfl) (hp:=hX) (hk:=by rw[hr];first|exact aO.all _|exact aO.self _ _)
 refine go ?_;refine gG (λc4=>?_) (λc4=>?_)
 rotate_left
 ·have hcf:c.family=4:=by omega
  have hjs:j<s.length:=by
   have:=G.fP.len (by unfold jQ;simp[hcf]);omega
  refine go ?_;intro _ _ iz hiz;have hig:=jJ hiz;obtain rfl:iz=(i:Int):=by
   have:=lJ;unfold gW at this;rw[if_pos (by unfold jQ;simp[hcf])]at this;omega
  refine go ?_;refine bZ (aB ae) (xs:=L) (k:=i) (next:=λ_ _ l2 (uA:Value) hl2=>?_);rw[G.hl']at hl2;obtain rfl:l'=l2:=Option.some.inj hl2;refine go ?_;refine ak (Aa (a:=a9) (xs:=img s l) (ys:=l') (by rw[hil];omega)) (next:=λ_ _=>?_);refine go ?_;refine ak (D8 (a:=a9) (xs:=img s l) (by rw[hil];omega)) (next:=λ_ _=>?_);generalize hxd:(((⟨(cn:Int),(i:Int),dQ⟩,vg),gD s l l'):CE)=x;have hnx:(p.take (jj+1)).map (gF k s)=(p.take jj).map (gF k s)++[kJ x]:=by
   rw[gZ hg,di,j5,<- hxd,G.gF];rfl
  have hX:(dx++x::mg ((p.drop (jj+1)).map (gF k s))).map kJ=p.map (gF k s):=by
   rw[di,fI,Lv,jT];conv=>rhs;rw[<- mM (jj+1) p,di,hnx,ed]
   rfl
  have gJ:=hy _ dW _ _ hos hX;rw[show Eh x=[pK ⟨(cn:Int),(i:Int),dQ⟩ vg,.bool (gD s l l')]by rw[<- hxd];rfl,show BS x=[ah ae vg dQ]by rw[<- hxd];rfl]at gJ;rw[bX,bH]at gJ;have hrl:(img s l).reverse.length=(img s l).length:=Ch;by_cases e0:img s l=l'
  ·rw[fQ e0];have htb:gD s l l'=false:=by unfold gD;simp[e0]
   rw[htb]at gJ;refine go ?_;refine ak gJ (next:=λ_ _=>?_);cases hst:(step dW x).2 with
   |true=>
    have hs1:step dW x=((step dW x).1,true):=Prod.ext rfl hst;refine go ?_;refine bi (jj+1,dx++[x],(step dW x).1) (by show p.length - (jj+1)<p.length - jj;omega) ⟨by show jj+1<=_;omega,hok _ dW _ _ hos hX hst,?_,λrest=>?_⟩
    ·show(dx++[x]).map kJ=_;rw[di,j5,jT];exact hnx.symm
    ·show bS step s0 (dx++[x]++rest)=_;rw[ed,hrun];show bS step dW (x::rest)=_;rw[bS,hs1]
   |false=>
    have hs1:step dW x=((step dW x).1,false):=Prod.ext rfl hst;have hr:=hrun (x::mg ((p.drop (jj+1)).map (gF k s)));rw[bS,hs1]at hr;dsimp only at hr;refine go ?_;exact aj (dx++x::mg ((p.drop (jj+1)).map (gF k s))) (hv:=rfl) (hp:=hX) (hk:=by rw[hr];first|exact aO.all _|exact aO.self _ _)
  ·rw[dM e0];have htb:gD s l l'=decide ((img s l).reverse=l'):=by unfold gD;simp[e0]
   rw[htb]at gJ;refine go ?_;refine bZ (aB ae) (xs:=L) (k:=i) (next:=λ_ _ l3 (Lt:Value) hl3=>?_);rw[G.hl']at hl3;obtain rfl:l'=l3:=Option.some.inj hl3;refine go ?_;rw[<- hrl];refine ak (Aa (a:=a9) (xs:=(img s l).reverse) (ys:=l') (by rw[hrl,hil];omega)) (next:=λ_ _=>?_);refine go ?_;refine ak gJ (next:=λ_ _=>?_);cases hst:(step dW x).2 with
   |true=>
    have hs1:step dW x=((step dW x).1,true):=Prod.ext rfl hst;refine go ?_;refine bi (jj+1,dx++[x],(step dW x).1) (by show p.length - (jj+1)<p.length - jj;omega) ⟨by show jj+1<=_;omega,hok _ dW _ _ hos hX hst,?_,λrest=>?_⟩
    ·show(dx++[x]).map kJ=_;rw[di,j5,jT];exact hnx.symm
    ·show bS step s0 (dx++[x]++rest)=_;rw[ed,hrun];show bS step dW (x::rest)=_;rw[bS,hs1]
   |false=>
    have hs1:step dW x=((step dW x).1,false):=Prod.ext rfl hst;have hr:=hrun (x::mg ((p.drop (jj+1)).map (gF k s)));rw[bS,hs1]at hr;dsimp only at hr;refine go ?_;exact aj (dx++x::mg ((p.drop (jj+1)).map (gF k s))) (hv:=rfl) (hp:=hX) (hk:=by rw[hr];first|exact aO.all _|exact aO.self _ _)
 refine go ?_;refine aJ rfl (λc5=>?_) (λc5=>?_)
 ·have hcf:c.family=5:=by omega
  have hjs:j<s.length:=by
   have:=G.fP.len (by unfold jQ;simp[hcf]);omega
  refine go ?_;intro _ _ iz hiz;have hig:=jJ hiz;obtain rfl:iz=(i:Int):=by
   have:=lJ;unfold gW at this;rw[if_pos (by unfold jQ;simp[hcf])]at this;omega
  refine go ?_;refine bZ (aB ae) (xs:=L) (k:=i) (next:=λ_ _ l2 (uA:Value) hl2=>?_);rw[G.hl']at hl2;obtain rfl:l'=l2:=Option.some.inj hl2;refine go ?_;refine ak (Aa (a:=a9) (xs:=img s l) (ys:=l') (by rw[hil];omega)) (next:=λ_ _=>?_);refine go ?_;refine ak (D8 (a:=a9) (xs:=img s l) (by rw[hil];omega)) (next:=λ_ _=>?_);generalize hxd:(((⟨(cn:Int),(i:Int),dQ⟩,vg),gD s l l'):CE)=x;have hnx:(p.take (jj+1)).map (gF k s)=(p.take jj).map (gF k s)++[kJ x]:=by
   rw[gZ hg,di,j5,<- hxd,G.gF];rfl
  have hX:(dx++x::mg ((p.drop (jj+1)).map (gF k s))).map kJ=p.map (gF k s):=by
   rw[di,fI,Lv,jT];conv=>rhs;rw[<- mM (jj+1) p,di,hnx,ed]
   rfl
  have gJ:=hy _ dW _ _ hos hX;rw[show Eh x=[pK ⟨(cn:Int),(i:Int),dQ⟩ vg,.bool (gD s l l')]by rw[<- hxd];rfl,show BS x=[ah ae vg dQ]by rw[<- hxd];rfl]at gJ;rw[bX,bH]at gJ;have hrl:(img s l).reverse.length=(img s l).length:=Ch;by_cases e0:img s l=l'
  ·rw[fQ e0];have htb:gD s l l'=false:=by unfold gD;simp[e0]
   rw[htb]at gJ;refine go ?_;refine ak gJ (next:=λ_ _=>?_);cases hst:(step dW x).2 with
   |true=>
    have hs1:step dW x=((step dW x).1,true):=Prod.ext rfl hst;refine go ?_;refine bi (jj+1,dx++[x],(step dW x).1) (by show p.length - (jj+1)<p.length - jj;omega) ⟨by show jj+1<=_;omega,hok _ dW _ _ hos hX hst,?_,λrest=>?_⟩
    ·show(dx++[x]).map kJ=_;rw[di,j5,jT];exact hnx.symm
    ·show bS step s0 (dx++[x]++rest)=_;rw[ed,hrun];show bS step dW (x::rest)=_;rw[bS,hs1]
   |false=>
    have hs1:step dW x=((step dW x).1,false):=Prod.ext rfl hst;have hr:=hrun (x::mg ((p.drop (jj+1)).map (gF k s)));rw[bS,hs1]at hr;dsimp only at hr;refine go ?_;exact aj (dx++x::mg ((p.drop (jj+1)).map (gF k s))) (hv:=rfl) (hp:=hX) (hk:=by rw[hr];first|exact aO.all _|exact aO.self _ _)
  ·rw[dM e0];have htb:gD s l l'=decide ((img s l).reverse=l'):=by unfold gD;simp[e0]
   rw[htb]at gJ;refine go ?_;refine bZ (aB ae) (xs:=L) (k:=i) (next:=λ_ _ l3 (Lt:Value) hl3=>?_);rw[G.hl']at hl3;obtain rfl:l'=l3:=Option.some.inj hl3;refine go ?_;rw[<- hrl];refine ak (Aa (a:=a9) (xs:=(img s l).reverse) (ys:=l') (by rw[hrl,hil];omega)) (next:=λ_ _=>?_);refine go ?_;refine ak gJ (next:=λ_ _=>?_);cases hst:(step dW x).2 with
   |true=>
    have hs1:step dW x=((step dW x).1,true):=Prod.ext rfl hst;refine go ?_;refine bi (jj+1,dx++[x],(step dW x).1) (by show p.length - (jj+1)<p.length - jj;omega) ⟨by show jj+1<=_;omega,hok _ dW _ _ hos hX hst,?_,λrest=>?_⟩
    ·show(dx++[x]).map kJ=_;rw[di,j5,jT];exact hnx.symm
    ·show bS step s0 (dx++[x]++rest)=_;rw[ed,hrun];show bS step dW (x::rest)=_;rw[bS,hs1]
   |false=>
    have hs1:step dW x=((step dW x).1,false):=Prod.ext rfl hst;have hr:=hrun (x::mg ((p.drop (jj+1)).map (gF k s)));rw[bS,hs1]at hr;dsimp only at hr;refine go ?_;exact aj (dx++x::mg ((p.drop (jj+1)).map (gF k s))) (hv:=rfl) (hp:=hX) (hk:=by rw[hr];first|exact aO.all _|exact aO.self _ _)
 refine go ?_;refine ak (akt (a:=a9) (n:=(img s l).length) (c:=(img s l).length)) (next:=λb1 _=>?_);refine go ?_;refine ak (akx (A:=ap ae (.slice a9 (img s l).length (img s l).length) (img s l)) (aku (b:=b1) (a:=a9) (xs:=img s l) (by omega)) (λys h=>by rw[h];omega)) (next:=λy hy2=>?_);obtain⟨v2,BF⟩:=y;have hy2:BF=img s l:=hy2;subst hy2;dsimp only[List.cons_append,List.nil_append];refine aZ (A:=ap ae v2 (bD (img s l))) (fs:=[ah ae v2 (bD (img s l))]) jk (h:=?_);refine bY (E:=ae) (v:=v2) (xs:=bD (img s l)) (by simp) λa12 c12 e12=>?_;subst e12;refine go ?_;intro b12;refine go ?_;refine aZ (dH (b:=b12)) (h:=?_);refine go ?_;refine ak (YG (fn:=.func 72) (first:=[]) (cap:=[ptr' b12]) (F1:=[bz b12 0 [.slice a12 (bD (img s l)).length c12],ah ae (.slice a12 (bD (img s l)).length c12) (bD (img s l))]) (p:=λx=>jR x (img s l)) (va:=.slice aL L.length cL) (xs:=L) (by omega) (λx hx=>alK (by omega) x (by have:=Bn x hx;omega))) (next:=λ_ _=>?_);rw[show uB (λx=>jR x (img s l)) L=(i:Int)by
  have h3:=lJ;unfold gW at h3;rw[if_neg (by
   unfold jQ;have a0:c.family≠0:=by omega
   have a4:c.family≠4:=by omega
   have a5:c.family≠5:=by omega
   simp[a0,a4,a5]),eX,fC G.hl]at h3
  exact h3]
 refine go ?_;refine go ?_;refine bZ (aB ae) (xs:=L) (k:=i) (next:=λ_ _ l2 (uA:Value) hl2=>?_);rw[G.hl']at hl2;obtain rfl:l'=l2:=Option.some.inj hl2;refine go ?_;refine ak (Aa (a:=a9) (xs:=img s l) (ys:=l') (by rw[hil];omega)) (next:=λ_ _=>?_);refine go ?_;refine ak (D8 (a:=a9) (xs:=img s l) (by rw[hil];omega)) (next:=λ_ _=>?_);generalize hxd:(((⟨(cn:Int),(i:Int),dQ⟩,vg),gD s l l'):CE)=x;have hnx:(p.take (jj+1)).map (gF k s)=(p.take jj).map (gF k s)++[kJ x]:=by
  rw[gZ hg,di,j5,<- hxd,G.gF];rfl
 have hX:(dx++x::mg ((p.drop (jj+1)).map (gF k s))).map kJ=p.map (gF k s):=by
  rw[di,fI,Lv,jT];conv=>rhs;rw[<- mM (jj+1) p,di,hnx,ed]
  rfl
 have gJ:=hy _ dW _ _ hos hX;rw[show Eh x=[pK ⟨(cn:Int),(i:Int),dQ⟩ vg,.bool (gD s l l')]by rw[<- hxd];rfl,show BS x=[ah ae vg dQ]by rw[<- hxd];rfl]at gJ;rw[bX,bH]at gJ;have hrl:(img s l).reverse.length=(img s l).length:=Ch;by_cases e0:img s l=l'
 ·rw[fQ e0];have htb:gD s l l'=false:=by unfold gD;simp[e0]
  rw[htb]at gJ;refine go ?_;refine ak gJ (next:=λ_ _=>?_);cases hst:(step dW x).2 with
  |true=>
   have hs1:step dW x=((step dW x).1,true):=Prod.ext rfl hst;refine go ?_;refine bi (jj+1,dx++[x],(step dW x).1) (by show p.length - (jj+1)<p.length - jj;omega) ⟨by show jj+1<=_;omega,hok _ dW _ _ hos hX hst,?_,λrest=>?_⟩
   ·show(dx++[x]).map kJ=_;rw[di,j5,jT];exact hnx.symm
   ·show bS step s0 (dx++[x]++rest)=_;rw[ed,hrun];show bS step dW (x::rest)=_;rw[bS,hs1]
  |false=>
   have hs1:step dW x=((step dW x).1,false):=Prod.ext rfl hst;have hr:=hrun (x::mg ((p.drop (jj+1)).map (gF k s)));rw[bS,hs1]at hr;dsimp only at hr;refine go ?_;exact aj (dx++x::mg ((p.drop (jj+1)).map (gF k s))) (hv:=rfl) (hp:=hX) (hk:=by rw[hr];first|exact aO.all _|exact aO.self _ _)
 ·rw[dM e0];have htb:gD s l l'=decide ((img s l).reverse=l'):=by unfold gD;simp[e0]
  rw[htb]at gJ;refine go ?_;refine bZ (aB ae) (xs:=L) (k:=i) (next:=λ_ _ l3 (Lt:Value) hl3=>?_);rw[G.hl']at hl3;obtain rfl:l'=l3:=Option.some.inj hl3;refine go ?_;rw[<- hrl];refine ak (Aa (a:=a9) (xs:=(img s l).reverse) (ys:=l') (by rw[hrl,hil];omega)) (next:=λ_ _=>?_);refine go ?_;refine ak gJ (next:=λ_ _=>?_);cases hst:(step dW x).2 with
  |true=>
   have hs1:step dW x=((step dW x).1,true):=Prod.ext rfl hst;refine go ?_;refine bi (jj+1,dx++[x],(step dW x).1) (by show p.length - (jj+1)<p.length - jj;omega) ⟨by show jj+1<=_;omega,hok _ dW _ _ hos hX hst,?_,λrest=>?_⟩
   ·show(dx++[x]).map kJ=_;rw[di,j5,jT];exact hnx.symm
   ·show bS step s0 (dx++[x]++rest)=_;rw[ed,hrun];show bS step dW (x::rest)=_;rw[bS,hs1]
  |false=>
   have hs1:step dW x=((step dW x).1,false):=Prod.ext rfl hst;have hr:=hrun (x::mg ((p.drop (jj+1)).map (gF k s)));rw[bS,hs1]at hr;dsimp only at hr;refine go ?_;exact aj (dx++x::mg ((p.drop (jj+1)).map (gF k s))) (hv:=rfl) (hp:=hX) (hk:=by rw[hr];first|exact aO.all _|exact aO.self _ _)
structure alP(k:aU)(s t:List Int)(p:List Clue)(e:Int):Prop where
 nk:¬bF k->e=180
 ns:bF k->¬gB k s t->e=230
 np:bF k->gB k s t->¬iQ k p->e=190
 ok:bF k->gB k s t->iQ k p->e=0
structure alQ where
 v:Value
 x:List Clue
 e:Int
theorem Zj(k:aU)(t:List Int):∀(xs:List CE) (z:List Clue),fM (λ(z:List Clue) (x:CE)=>(z++[l9 k t (kJ x)],Out.normal)) z xs=(z++(xs.map kJ).map (l9 k t),Out.normal)
 |[],z=>by simp[fM]
 |x::xs,z=>by
  rw[fM];dsimp only;rw[Zj k t xs,fI,fI,ed];rfl
theorem alR{k:aU}{t:List Int}{cl at_:Int}{vs:List Int}{b:Bool}{c:iI}(h:k.decl.bI[cl.toNat]? =some c):l9 k t (⟨cl,at_,vs⟩,b)=⟨cl,at_,if c.type=1 then img t vs else if c.type=3/\b=true then vs.reverse else vs⟩:=by
 unfold l9;dsimp only;rw[h]
theorem kY.KG{k:aU}{g:Clue}(h:kY k g):g.values.length<=8:=by
 obtain⟨c',L',a1,a2,a3,a4,a5,a6⟩:=h;rcases a6 with⟨a,b,_⟩|⟨a,b,_⟩|⟨a,_,b,_⟩<;>omega
set_option maxRecDepth 100000 in
theorem yM{k:aU}{s t:List Int}{p:List Clue}{vh vs vr vc vu gh gc vn vl sc st vp:Value}(hS:mR k)(hP:oW p)(hs:s.length<9223372036854775808)(ht:t.length<9223372036854775808):
 aQ Tryz.prog (.func 23) [.agg ⟨kG k vh vs vr vc vu gh gc vn vl⟩,.agg ⟨[sc,st]⟩,.agg ⟨[vp]⟩] [] [] (ah bG vp p::ah ae sc s::ah ae st t::je k vh vs vr vc vu gh gc vn vl []) (λy:alQ=>.tuple ⟨[.agg ⟨[y.v]⟩,.int .i64 y.e]⟩) (λ_=>[])
  (λy=>[iT (y.e=0) (ah bG y.v y.x)]) (λy=>alP k s t p y.e/\(y.e=0->jP (p.map (gV k s t)) y.x)/\(y.e≠0->y.v=.slice none 0 0)):=by
 refine zG Zh alF λB w0=>?_;dsimp only[je];refine bY (E:=ae) (v:=st) (xs:=t) (by simp) λQV cst est=>?_;subst est;refine go ?_;intro b3 b4 b5 b6;refine aZ (dH (b:=b3)) (h:=?_);refine aZ (dH (b:=b4)) (h:=?_);refine aZ (dH (b:=b5)) (h:=?_);refine go ?_;refine ak (Eg (k:=k) (s:=s) (t:=t) (vh:=vh) (vs:=vs) (vr:=vr) (vc:=vc) (vu:=vu) (gh:=gh) (gc:=gc) (vn:=vn) (vl:=vl) hS hs ht) (next:=λe he=>?_);refine go ?_;refine aJ rfl (λhne=>?_) (λhz=>?_)
 ·refine go ?_;refine nZ (c:=e=0) (f:=ah bG (.slice none 0 0) ([]:List Clue)) hne ?_;exact u7 ⟨.slice none 0 0,[],e⟩ (hv:=rfl) (hp:=⟨⟨he.nk,he.ns,λa b _=>absurd (he.ok a b) hne,λa b _=>absurd (he.ok a b) hne⟩,λh=>absurd h hne,λ_=>rfl⟩)
 have hz:e=0:=jo.1 hz;subst hz;have hK:bF k:=Classical.byContradiction λh=>by have:=he.nk h;omega
 have hk:gB k s t:=Classical.byContradiction λh=>by have:=he.ns hK h;omega
 clear he;refine go ?_;refine ak (Yl (k:=k) (p:=p) (vh:=vh) (vs:=vs) (vr:=vr) (vc:=vc) (vu:=vu) (gh:=gh) (gc:=gc) (vn:=vn) (vl:=vl) hS hP) (next:=λe he=>?_);refine go ?_;refine aJ rfl (λhne=>?_) (λhz=>?_)
 ·refine go ?_;refine nZ (c:=e=0) (f:=ah bG (.slice none 0 0) ([]:List Clue)) hne ?_;exact u7 ⟨.slice none 0 0,[],e⟩ (hv:=rfl) (hp:=⟨⟨λh=>absurd hK h,λ_ h=>absurd hk h,λa _ b=>he.2.1 a b,λa _ b=>absurd (he.2.2 a b) hne⟩,λh=>absurd h hne,λ_=>rfl⟩)
 have hz:e=0:=jo.1 hz;subst hz;have hQ:iQ k p:=Classical.byContradiction λh=>by have:=he.2.1 hK h;omega
 clear he;have hpl:=hQ.len;have htl:=hk.ps.len;have hm:=hK.typ.lim.s1;refine go ?_;intro b8;refine go ?_;refine ak (alJ (k:=k) (vh:=vh) (vs:=vs) (vr:=vr) (vc:=vc) (vu:=vu) (gh:=gh) (gc:=gc) (vn:=vn) (vl:=vl) (sc:=sc) (st:=.slice QV t.length cst) (vp:=vp)) (next:=λyl _=>?_);refine go ?_;refine lY bG ?_;refine uZ (λv:Value=>[pt b8 (.cells [v]),ap bG v ([]:List Clue)]) (.slice none 0 0) (h:=?_);refine VD (Z:=Nat) (λ(z:List Clue) (x:CE)=>(z++[l9 k t (kJ x)],Out.normal)) (λz=>[Jr λv:Value=>[pt b8 (.cells [v]),ap bG v z]]) (λvs z=>z=(vs.map kJ).map (l9 k t)) [] _ (λx z=>[pt z (.cells [.int .i64 x.1.1.aN,.int .i64 x.1.1.at_,x.1.2])]) rfl (λvs z x rest hz _ _=>by rw[hz,di,di];rfl)
  (alL (bk:=yl.2.1) (bs:=yl.2.2) (bp:=yl.1) (k:=k) (s:=s) (t:=t) (p:=p) (vh:=vh) (vs:=vs) (vr:=vr) (vc:=vc) (vu:=vu) (gh:=gh) (gc:=gc) (vn:=vn) (vl:=vl) (sc:=sc) (st:=.slice QV t.length cst) (vp:=vp) hK hk hQ)
  (by intro z x lo o B w0;dsimp only[Eh,BS,List.cons_append,List.nil_append,List.zip_cons_cons,List.zip_nil_left,List.reverse_cons,List.reverse_nil];refine go ?_;intro b9;refine go ?_;exact Bj b9 rfl) ?_ ?_ (λ_ _=>trivial)
 ·rintro dx z ⟨⟨⟨GD,Lx,dQ⟩,wv⟩,bb⟩ rest b9 lo LL B w0 hz hX;have hxm:(⟨GD,Lx,dQ⟩,bb)∈p.map (gF k s):=by rw[<- hX];exact cZ.2 ⟨((⟨GD,Lx,dQ⟩,wv),bb),by simp,rfl⟩
  obtain⟨g,hgm,hge⟩:=cZ.1 hxm;obtain⟨c,L,j,i,l,l',G⟩:=vN hK hk (hQ.right g hgm);have hgR:=hQ.right g hgm;rw[G.gF]at hge;injection hge with hge hbe;injection hge with e1 e2 e3;have hcl0:0<=GD:=by rw[<- e1];exact G.aN
  obtain⟨cn,rfl⟩:=eO hcl0;have hcc:k.decl.bI[cn]? =some c:=by have:=G.hc;rwa [e1,eX]at this
  have alN:=(aW.1 hcc).1;subst e2;have hgv:dQ.length<=8/\(c.type=1->dQ.length=1):=by
   obtain⟨c',L',a1,a2,a3,a4,a5,a6⟩:=hgR;rw[G.hc]at a2;cases a2;rw[e3]at a6;rcases a6 with⟨a,b,_⟩|⟨a,b,_⟩|⟨a,_,b,_⟩
   ·exact⟨by omega,λ_=>b⟩
   ·exact⟨by omega,λh=>by omega⟩
   ·exact⟨b,λh=>absurd h a⟩
  have hgr:c.type=1->∀x∈dQ,0<=x/\x<(k.decl.symbols.length:Int):=by rw[<- e3];exact G.vals hgR
  have Ad:=alR (k:=k) (t:=t) (cl:=(cn:Int)) (at_:=(i:Int)) (vs:=dQ) (b:=bb) (c:=c) (by rw[eX];exact hcc)
  have hzl:z.length<=512:=by
   have h2:=congrArg List.length hX;rw[bJ,gP,bJ]at h2;rw[hz,bJ,bJ];omega
  dsimp only[BS,kJ,List.cons_append,List.nil_append,List.reverse_cons,List.reverse_nil];refine zF (h:=λv=>?_);refine go ?_;refine ak (QC (v:=wv) (xs:=dQ) (by omega)) (next:=λa _=>?_);refine go ?_;refine bZ dX (xs:=k.decl.bI) (k:=cn) (next:=λ_ _ c2 (_:Unit) hc2=>?_);rw[hcc]at hc2;obtain rfl:c=c2:=Option.some.inj hc2;refine go ?_;refine aJ rfl (λt1=>?_) (λt1=>?_)
  ·obtain⟨v0,rfl⟩:∃v0,dQ=[v0]:=by
    match dQ,hgv.2 t1 with
    |[v0],_=>exact⟨v0,rfl⟩
   have hv0:=hgr t1 v0 (bO.2 rfl);obtain⟨wT,rfl⟩:=eO hv0.1;refine afQ (v:=.slice a [(wT:Int)].length [(wT:Int)].length) (xs:=[(wT:Int)]) (by simp) λbb2 f pre hf ev=>?_;obtain rfl:a=some ⟨bb2,pre.length,some f⟩:=by injection ev
   refine go ?_;refine pF (b:=bb2) (o:=pre.length+0*1) (cs:=pre++[(wT:Int)].map (.int .i64)) (.int .i64 (wT:Int)) (OB (k:=0) rfl) ?_;refine go ?_;intro _ _ zt hzt;have alT:=jJ hzt;refine go ?_;refine mD (b:=bb2) (o:=pre.length+0*1) (cs:=pre++[(wT:Int)].map (.int .i64)) (v:=.int .i64 zt) (cs':=pre++[zt].map (.int .i64)) (OC (k:=0)) (by simp) ?_;refine afR (b:=bb2) (f:=f) (m:=1) (pre:=pre) (xs:=[zt]) rfl hf ?_;refine aZ (A:=ap ae (.slice (some ⟨bb2,pre.length,some f⟩) 1 1) [zt]) (fs:=[ah ae (.slice (some ⟨bb2,pre.length,some f⟩) 1 1) [zt]]) jk (h:=?_);refine fO (ah ae (.slice (some ⟨bb2,pre.length,some f⟩) 1 1) (l9 k t (⟨(cn:Int),(i:Int),[(wT:Int)]⟩,bb)).values) (λw hw=>by rw[Ad,if_pos t1];show(ah ae _ [aP t (wT:Int)]).p w;rw[alT];exact hw (ah ae (.slice (some ⟨bb2,pre.length,some f⟩) 1 1) [zt]) (by simp)) ?_;refine go ?_;intro b64;refine go ?_;refine jO (xs:=z) bG (l9 k t (⟨(cn:Int),(i:Int),[(wT:Int)]⟩,bb)) (.slice (some ⟨bb2,pre.length,some f⟩) 1 1) (by omega) (hp:=by rw[Ad];rfl) (next:=λad=>?_);refine go ?_;refine uZ (λv:Value=>[pt b8 (.cells [v]),ap bG v (z++[l9 k t (⟨(cn:Int),(i:Int),[(wT:Int)]⟩,bb)])]) _ (h:=?_);exact qQ () rfl trivial trivial
  refine go ?_;refine aJ rfl (λt3=>?_) (λt3=>?_)
  ·refine go ?_;cases bb with
   |true=>
    refine go ?_;refine ak (D8 (a:=a) (xs:=dQ) (by omega)) (next:=λ_ _=>?_);refine aZ (A:=ap ae (.slice a dQ.length dQ.length) dQ.reverse) (fs:=[ah ae (.slice a dQ.length dQ.length) dQ.reverse]) jk (h:=?_);refine fO (ah ae (.slice a dQ.length dQ.length) (l9 k t (⟨(cn:Int),(i:Int),dQ⟩,true)).values) (λw hw=>by rw[Ad,if_neg t1,if_pos ⟨t3,rfl⟩];exact hw (ah ae (.slice a dQ.length dQ.length) dQ.reverse) (by simp)) ?_;refine go ?_;intro b64;refine go ?_;refine jO (xs:=z) bG (l9 k t (⟨(cn:Int),(i:Int),dQ⟩,true)) (.slice a dQ.length dQ.length) (by omega) (hp:=by rw[Ad];rfl) (next:=λad=>?_);refine go ?_;refine uZ (λv:Value=>[pt b8 (.cells [v]),ap bG v (z++[l9 k t (⟨(cn:Int),(i:Int),dQ⟩,true)])]) _ (h:=?_);exact qQ () rfl trivial trivial
   |false=>
    refine aZ (A:=ap ae (.slice a dQ.length dQ.length) dQ) (fs:=[ah ae (.slice a dQ.length dQ.length) dQ]) jk (h:=?_);refine fO (ah ae (.slice a dQ.length dQ.length) (l9 k t (⟨(cn:Int),(i:Int),dQ⟩,false)).values) (λw hw=>by rw[Ad,if_neg t1,if_neg (by simp)];exact hw (ah ae (.slice a dQ.length dQ.length) dQ) (by simp)) ?_;refine go ?_;intro b64;refine go ?_;refine jO (xs:=z) bG (l9 k t (⟨(cn:Int),(i:Int),dQ⟩,false)) (.slice a dQ.length dQ.length) (by omega) (hp:=by rw[Ad];rfl) (next:=λad=>?_);refine go ?_;refine uZ (λv:Value=>[pt b8 (.cells [v]),ap bG v (z++[l9 k t (⟨(cn:Int),(i:Int),dQ⟩,false)])]) _ (h:=?_);exact qQ () rfl trivial trivial
  ·refine aZ (A:=ap ae (.slice a dQ.length dQ.length) dQ) (fs:=[ah ae (.slice a dQ.length dQ.length) dQ]) jk (h:=?_);refine fO (ah ae (.slice a dQ.length dQ.length) (l9 k t (⟨(cn:Int),(i:Int),dQ⟩,bb)).values) (λw hw=>by rw[Ad,if_neg t1,if_neg (λq=>t3 (by have:=q.1;omega))];exact hw (ah ae (.slice a dQ.length dQ.length) dQ) (by simp)) ?_;refine go ?_;intro b64;refine go ?_;refine jO (xs:=z) bG (l9 k t (⟨(cn:Int),(i:Int),dQ⟩,bb)) (.slice a dQ.length dQ.length) (by omega) (hp:=by rw[Ad];rfl) (next:=λad=>?_);refine go ?_;refine uZ (λv:Value=>[pt b8 (.cells [v]),ap bG v (z++[l9 k t (⟨(cn:Int),(i:Int),dQ⟩,bb)])]) _ (h:=?_);exact qQ () rfl trivial trivial
 ·intro r xs hX;rw[Zj,hX];dsimp only[List.cons_append,List.nil_append];have hmap:(p.map (gF k s)).map (l9 k t)=p.map (gV k s t):=by
   rw[qE];exact yQ λg _=>alI k s t g
  rw[hmap];refine zF (h:=λv=>?_);refine go ?_;refine aZ (A:=ap bG v (p.map (gV k s t))) (fs:=[ah bG v (p.map (gV k s t))]) jk (h:=?_);refine ak (akn (v:=v) (xs:=p.map (gV k s t)) (by rw[bJ];omega) (λx hx=>by
   obtain⟨g,hg,rfl⟩:=cZ.1 hx;have:=kY.KG (Lg hK hk (hQ.right g hg));omega)) (next:=λy hy=>?_)
  obtain⟨v2,ys⟩:=y;dsimp only[List.cons_append,List.nil_append]at hy⊢;refine go ?_;refine qy (c:=(0:Int)=0) (f:=ah bG v2 ys) (by simp) ?_;exact u7 ⟨v2,ys,0⟩ (hv:=rfl) (hp:=⟨⟨λh=>absurd hK h,λ_ h=>absurd hk h,λ_ _ h=>absurd hQ h,λ_ _ _=>rfl⟩,λ_=>hy,λh=>absurd rfl h⟩)
