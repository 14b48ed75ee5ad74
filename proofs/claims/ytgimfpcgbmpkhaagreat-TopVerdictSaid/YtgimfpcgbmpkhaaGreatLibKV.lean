/- Part. -/
import Derived.Test.YtgimfpcgbmpkhaaGreatLibJV
set_option linter.all false
set_option maxRecDepth 10000
set_option maxHeartbeats 4000000
namespace Go.Proofs.YtgimfpcgbmpkhaaGreat
open Go.Ideal Gph Vm
def axr(r:Int):∀rs:ae Int,mi (rs++[r])=mi rs++((if rs.length=0 then[]else[false])++List.replicate r.toNat true)
 |[]=>by simp[mi]
 |[a]=>by simp[mi]
 |a::b::rs=>by
  have ih:=axr r (b::rs);show List.replicate a.toNat true++false::mi ((b::rs)++[r])=List.replicate a.toNat true++false::mi (b::rs)++_;rw[ih];simp
def azs{rs:ae Int}{k:Nat}{r:Int}(h:rs[k]? =some r):mi (rs.take (k+1))=mi (rs.take k)++((if k=0 then[]else[false])++List.replicate r.toNat true):=by
 have hk:=(bz.1 h).1;rw[rP,h,ama,axr,gW,Ae ov]
def vL(line:ae Bool)(s:Nat):ae Int:=(List.range s).flatMap λs=>[vw line s,vG line s]
def aes(line:ae Bool)(s:Nat):vL line (s+1)=vL line s++[vw line s,vG line s]:=by unfold vL;rw[BX,Xa];simp
def axs(line:ae Bool):∀s,(vL line s).length=2*s
 |0=>rfl
 |s+1=>by rw[aes,fu,axs line s];simp;omega
abbrev y8(l:ae Int):ae (Int×aj.Y):=l.map λx=>(x,())
def ahs(l:ae Int):(y8 l).length=l.length:=bi ..
def ahv(a b:ae Int):y8 a++y8 b=y8 (a++b):=by unfold y8;rw[bZ]
def ahE{zs:ae (Int×aj.Y)}{l:ae Int}(h:zs.map (·.1)=l):zs=y8 l:=by
 subst h;unfold y8;rw[rO];exact(List.map_id _).symm
def azt(l:ae Int):(y8 l).map (·.1)=l:=by unfold y8;rw[rO];exact List.map_id _
section
variable {q:Kn} {vv vn vc:ah} {n:Int} {be bC:Nat} {l:ae Ins} {c:rZ} {v1 v2:ah} {at_:az Addr} {ts:ae (ae Int)} {vi:ah}
structure RnY where
 vi:Value
 ad:Option Addr
def azv(hl:l.length<17000000)(hcl:c.cells.length<=256)(hrl:c.runs.length<=8)(hr:∀x∈c.runs,1<=x/\x<=256)(htl:ts.length<=4096):
 aY Tryz.prog (.func 45) [ptr' bC,.agg ⟨ag0 c v1 v2⟩] [] [pt bC (.cells (cmpL q vv vn vc (.slice at_ ts.length ts.length) vi n be)),sk iB vi (psI l),ap (aA aj) (.slice at_ ts.length ts.length) ts] [aX be 0 [ptr' bC],ay aj v1 c.cells,ay aj v2 c.runs] (λ_:RnY=>.tuple ⟨[]⟩)
  (λy=>[pt bC (.cells (cmpL q vv vn vc (.slice y.ad (ts.length+1) (ts.length+1)) y.vi n be)),sk iB y.vi (psI (l++aoT c.cells c.set (ts.length:Int) ((mi c.runs).length:Int) n)),ap (aA aj) (.slice y.ad (ts.length+1) (ts.length+1)) (ts++[aam (mi c.runs)])]) (λ_=>[]) (λ_=>True):=by
 refine gB 45 λB w0=>?_;refine gF aj v1 c.cells λa1 c1 e1=>?_;subst e1;refine gF aj v2 c.runs λa2 c2 e2=>?_;subst e2;refine go ?_;intro b3;refine gP b3 ?_;refine go ?_;refine kv lG ?_;refine dL (λy:Nat×ah=>c.runs.length - y.1) (λy=>[(16,iV (y.1:Int)),(4,y.2)]) (λy=>[ap lG y.2 (mi (c.runs.take y.1))]) (λ_=>[]) (λy=>y.1<=c.runs.length) (0,.slice none 0 0) (bI _) (hk:=by
  rw[atL];exact bM) (body:=?_)
 rintro⟨k,w⟩ hk;dsimp only at hk⊢;have hlk:=aqW (c.runs.take k) (λx hx=>(hr x (FL hx)).2);rw[gW]at hlk;refine aK ?_ ?_<;>intro h1
 .refine go ?_;intro _ _ r hrk;have hrr:=hr r (aV hrk);have htk:=azs hrk;obtain⟨r,rfl⟩:=dW (show 0<=r by omega);refine aK ?_ ?_<;>intro h2
  .refine go ?_;intro b24;refine go ?_;refine jy (xs:=mi (c.runs.take k)) lG false () ov (next:=λad=>?_);refine go ?_;refine dL (λy:Nat×ah=>r - y.1) (λy=>[(27,iV (y.1:Int)),(4,y.2)]) (λy=>[ap lG y.2 (mi (c.runs.take k)++[false]++List.replicate y.1 true)]) (λ_=>[]) (λy=>y.1<=r) (0,_) (bI _) (hk:=by
    rw[av9,jo];exact bM) (body:=?_)
   rintro⟨j,w2⟩ hj;dsimp only at hj⊢;have hll:(mi (c.runs.take k)++[false]++List.replicate j true).length<=5000:=by simp only[fu,zg,DZ];omega
   refine aK ?_ ?_<;>intro g1
   .refine go ?_;intro b30;refine go ?_;refine jy (xs:=mi (c.runs.take k)++[false]++List.replicate j true) lG true () ov (next:=λad=>?_);rw[show mi (c.runs.take k)++[false]++List.replicate j true++[true]=mi (c.runs.take k)++[false]++List.replicate (j+1) true by rw[List.replicate_succ',gp]];exact jQ
   have iH:j=r:=ov
   subst iH;rw[show mi (c.runs.take k)++[false]++List.replicate j true=mi (c.runs.take (k+1))by rw[htk,fI];rw[if_neg ov];simp];exact gx
  .refine go ?_;refine dL (λy:Nat×ah=>r - y.1) (λy=>[(27,iV (y.1:Int)),(4,y.2)]) (λy=>[ap lG y.2 (mi (c.runs.take k)++List.replicate y.1 true)]) (λ_=>[]) (λy=>y.1<=r) (0,w) (bI _) (hk:=by
    rw[av9,jo];exact bM) (body:=?_)
   rintro⟨j,w2⟩ hj;dsimp only at hj⊢;have hll:(mi (c.runs.take k)++List.replicate j true).length<=5000:=by simp only[fu,zg,DZ];omega
   refine aK ?_ ?_<;>intro g1
   .refine go ?_;intro b30;refine go ?_;refine jy (xs:=mi (c.runs.take k)++List.replicate j true) lG true () ov (next:=λad=>?_);rw[show mi (c.runs.take k)++List.replicate j true++[true]=mi (c.runs.take k)++List.replicate (j+1) true by rw[List.replicate_succ',gp]];exact jQ
   have iH:j=r:=ov
   subst iH;rw[show mi (c.runs.take k)++List.replicate j true=mi (c.runs.take (k+1))by rw[htk,fI];rw[if_pos ov];simp];exact gx
 have hke:k=c.runs.length:=ov
 subst hke;rw[dK];have hL:=aqW c.runs (λx hx=>(hr x hx).2);generalize Lu:mi c.runs=L at hL⊢;refine gZ (ja (E:=lG) (v:=w) (xs:=L)) ?_;refine gF lG w L λa4 c4 e4=>?_;subst e4;refine go ?_;refine ax9 aj ?_;refine dL (λy:Nat×ah=>L.length+1 - y.1) (λy=>[(8,iV (y.1:Int)),(7,y.2)]) (λy=>[aq aj y.2 (y8 (vL L y.1))]) (λ_=>[]) (λy=>y.1<=L.length+1) (0,.slice none 0 0) (bI _) (hk:=bM) (body:=?_);rintro⟨s,w⟩ hs;dsimp only at hs⊢;have htp:=axs L s;refine aK ?_ ?_<;>intro h1
 .refine gH ?_ ?_<;>intro g1
  .refine gH ?_ ?_<;>intro g2
   .refine go ?_;rw[show(s:Int) - 1=((s - 1:Nat):Int)by omega];refine go ?_;intro _ _ x hx;rw[fI]at hx;cases x with
    |true=>
     refine gH ?_ ?_<;>intro g3
     .refine aK ?_ ?_<;>intro g4
      .exfalso;omega
      refine go ?_;intro j3;refine mI (A:=pt j3 (.cells [iV (-1),iV (-1)])) (fs:=[ay aj (.slice (some ⟨j3,0,some 0⟩) 2 2) [(-1),(-1)]]) (uJ (b:=j3) (f:=0) (c:=2) (xs:=[(-1),(-1)])) (h:=?_);refine J6 aj (.slice (some ⟨j3,0,some 0⟩) 2 2) (xs:=[(-1),(-1)]) (λCV hzz=>?_);obtain rfl:=ahE hzz;refine go ?_;refine aeG aj (aF:=y8 (vL L s)) (y8 [(-1),(-1)]) sL (λv'=>?_);have e1:vw L s=(-1):=by unfold vw;grind
      have e2:vG L s=(-1):=sM
      rw[ahv,show vL L s++[(-1),(-1)]=vL L (s+1)by rw[aes,e1,e2]];exact bX
     .refine go ?_;intro _ _ y hy;cases y with
      |true=>
       refine go ?_;intro j3;refine mI (A:=pt j3 (.cells [iV (-1),iV ((s:Int)+1)])) (fs:=[ay aj (.slice (some ⟨j3,0,some 0⟩) 2 2) [(-1),((s:Int)+1)]]) (uJ (b:=j3) (f:=0) (c:=2) (xs:=[(-1),((s:Int)+1)])) (h:=?_);refine J6 aj (.slice (some ⟨j3,0,some 0⟩) 2 2) (xs:=[(-1),((s:Int)+1)]) (λCV hzz=>?_);obtain rfl:=ahE hzz;refine go ?_;refine aeG aj (aF:=y8 (vL L s)) (y8 [(-1),((s:Int)+1)]) sL (λv'=>?_);have e1:vw L s=(-1):=by unfold vw;grind
       have e2:vG L s=((s:Int)+1):=sM
       rw[ahv,show vL L s++[(-1),((s:Int)+1)]=vL L (s+1)by rw[aes,e1,e2]];exact bX
      |false=>
       refine aK ?_ ?_<;>intro g4
       .refine go ?_;intro j3;refine mI (A:=pt j3 (.cells [iV ((s:Int)+1),iV (-1)])) (fs:=[ay aj (.slice (some ⟨j3,0,some 0⟩) 2 2) [((s:Int)+1),(-1)]]) (uJ (b:=j3) (f:=0) (c:=2) (xs:=[((s:Int)+1),(-1)])) (h:=?_);refine J6 aj (.slice (some ⟨j3,0,some 0⟩) 2 2) (xs:=[((s:Int)+1),(-1)]) (λCV hzz=>?_);obtain rfl:=ahE hzz;refine go ?_;refine aeG aj (aF:=y8 (vL L s)) (y8 [((s:Int)+1),(-1)]) sL (λv'=>?_);have e1:vw L s=((s:Int)+1):=by unfold vw;grind
        have e2:vG L s=(-1):=sM
        rw[ahv,show vL L s++[((s:Int)+1),(-1)]=vL L (s+1)by rw[aes,e1,e2]];exact bX
       .exfalso;omega
    |false=>
     exact bh
   .exact bh
  .exact bh
 have hse:s=L.length+1:=ov
 subst hse;rw[show vL L (L.length+1)=aam L from rfl];refine aya aj (v:=w) (aF:=y8 (aam L)) ?_;refine gZ (awk aj (v:=w) (aF:=y8 (aam L))) ?_;rw[azt];refine gF aj w (aam L) λa5 c5 e5=>?_;subst e5;refine gC (kT (q:=q) (vv:=vv) (vn:=vn) (vc:=vc) (vt:=.slice at_ ts.length ts.length) (n:=n) (be:=be) (bC:=bC) (l:=l) (op:=1) (a:=0) oy _) λw1 _=>?_;refine gC (kT (q:=q) (vv:=vv) (vn:=vn) (vc:=vc) (vt:=.slice at_ ts.length ts.length) (n:=n) (be:=be) (bC:=bC) (l:=l++[⟨1,0⟩]) (op:=9) (a:=0) oy _) λw2 _=>?_;have h8:∀x,(ajq c.set (ts.length:Int) x).length<=8:=λx=>bG _;refine go ?_;refine dL (λy:Nat×ah=>c.cells.length - y.1) (λy=>[(93,iV (y.1:Int))]) (λy=>ant q vv vn vc (.slice at_ ts.length ts.length) n be bC y.2 (l++[⟨1,0⟩]++[⟨9,0⟩]++(c.cells.take y.1).flatMap (ajq c.set (ts.length:Int)))) (λ_=>[]) (λy=>y.1<=c.cells.length) (0,w2) (bI _) (hk:=by
  rw[atL,List.flatMap_nil,jo];exact bM) (body:=?_)
 rintro⟨k,w⟩ hk;dsimp only at hk⊢;have hfl:=avi h8 (c.cells.take k);rw[gW]at hfl;have hMl:(l++[⟨1,0⟩]++[⟨9,0⟩]++(c.cells.take k).flatMap (ajq c.set (ts.length:Int)):ae Ins).length<17500000:=by simp only[fu,DZ];omega
 generalize hM:(l++[⟨1,0⟩]++[⟨9,0⟩]++(c.cells.take k).flatMap (ajq c.set (ts.length:Int)):ae Ins)=M at hMl⊢;refine aK ?_ ?_<;>intro h1
 .refine go ?_;intro _ _ x hx;refine gC (kT (q:=q) (vv:=vv) (vn:=vn) (vc:=vc) (vt:=.slice at_ ts.length ts.length) (n:=n) (be:=be) (bC:=bC) (l:=M) (op:=10) (a:=0) oy _) λw1 _=>?_;refine gC (kT (q:=q) (vv:=vv) (vn:=vn) (vc:=vc) (vt:=.slice at_ ts.length ts.length) (n:=n) (be:=be) (bC:=bC) (l:=M++[⟨10,0⟩]) (op:=10) (a:=0) oy _) λw2 _=>?_;refine gC (kT (q:=q) (vv:=vv) (vn:=vn) (vc:=vc) (vt:=.slice at_ ts.length ts.length) (n:=n) (be:=be) (bC:=bC) (l:=M++[⟨10,0⟩]++[⟨10,0⟩]) (op:=5) (a:=0) oy _) λw3 _=>?_;refine gC (an9 (q:=q) (vv:=vv) (vn:=vn) (vc:=vc) (vt:=.slice at_ ts.length ts.length) (n:=n) (be:=be) (bC:=bC) (l:=M++[⟨10,0⟩]++[⟨10,0⟩]++[⟨5,0⟩]) (c:=x) (set:=c.set) oF _) λw4 _=>?_;refine gC (kT (q:=q) (vv:=vv) (vn:=vn) (vc:=vc) (vt:=.slice at_ ts.length ts.length) (n:=n) (be:=be) (bC:=bC) (l:=M++[⟨10,0⟩]++[⟨10,0⟩]++[⟨5,0⟩]++aa c.set x) (op:=5) (a:=0) oy _) λw5 _=>?_;refine gC (kT (q:=q) (vv:=vv) (vn:=vn) (vc:=vc) (vt:=.slice at_ ts.length ts.length) (n:=n) (be:=be) (bC:=bC) (l:=M++[⟨10,0⟩]++[⟨10,0⟩]++[⟨5,0⟩]++aa c.set x++[⟨5,0⟩]) (op:=11) (a:=(ts.length:Int)) oy _) λw6 _=>?_;refine gC (kT (q:=q) (vv:=vv) (vn:=vn) (vc:=vc) (vt:=.slice at_ ts.length ts.length) (n:=n) (be:=be) (bC:=bC) (l:=M++[⟨10,0⟩]++[⟨10,0⟩]++[⟨5,0⟩]++aa c.set x++[⟨5,0⟩]++[⟨11,(ts.length:Int)⟩]) (op:=9) (a:=0) oy _) λw7 _=>?_;rw[show M++[⟨10,0⟩]++[⟨10,0⟩]++[⟨5,0⟩]++aa c.set x++[⟨5,0⟩]++[⟨11,(ts.length:Int)⟩]++[⟨9,0⟩]=l++[⟨1,0⟩]++[⟨9,0⟩]++(c.cells.take (k+1)).flatMap (ajq c.set (ts.length:Int))by rw[<- hM,rP,hx,ama,Xa];simp[ajq,aa]];refine go ?_;exact aW (k+1,w7) (by show c.cells.length - (k+1)<c.cells.length - k;omega) oH
 have hke:k=c.cells.length:=ov
 subst hke;rw[dK]at hM;refine gC (kT (q:=q) (vv:=vv) (vn:=vn) (vc:=vc) (vt:=.slice at_ ts.length ts.length) (n:=n) (be:=be) (bC:=bC) (l:=M) (op:=10) (a:=0) oy _) λw1 _=>?_;refine gC (kT (q:=q) (vv:=vv) (vn:=vn) (vc:=vc) (vt:=.slice at_ ts.length ts.length) (n:=n) (be:=be) (bC:=bC) (l:=M++[⟨10,0⟩]) (op:=1) (a:=(L.length:Int)) oy _) λw2 _=>?_;refine gC (kT (q:=q) (vv:=vv) (vn:=vn) (vc:=vc) (vt:=.slice at_ ts.length ts.length) (n:=n) (be:=be) (bC:=bC) (l:=M++[⟨10,0⟩]++[⟨1,(L.length:Int)⟩]) (op:=6) (a:=0) oy _) λw3 _=>?_;refine gC (akG (q:=q) (vv:=vv) (vn:=vn) (vc:=vc) (vt:=.slice at_ ts.length ts.length) (n:=n) (be:=be) (bC:=bC) (l:=M++[⟨10,0⟩]++[⟨1,(L.length:Int)⟩]++[⟨6,0⟩]) oF _) λw4 _=>?_;rw[show M++[⟨10,0⟩]++[⟨1,(L.length:Int)⟩]++[⟨6,0⟩]++[⟨15,n⟩]=l++aoT c.cells c.set (ts.length:Int) (L.length:Int) n by rw[<- hM];simp[aoT]];refine go ?_;intro aBp;refine go ?_;refine jy (xs:=ts) (aA aj) (aam L) (.slice a5 (aam L).length c5) ov (next:=λad=>?_);refine go ?_;exact gQ ⟨w4,ad⟩ trivial
end
def axt{i:Ins}{a:Int}{r:ae ah}:∀{l:ae Ins} {k:Nat},l[k]? =some i->(dP iB (psI l)++r).set (k*3+1) (iV a)=dP iB (psI (l.set k ⟨i.op,a⟩))++r
 |[],k,h=>by cases h
 |x::l,0,h=>by cases h;rfl
 |x::l,k+1,h=>by
  have ih:=axt (i:=i) (a:=a) (l:=l) (k:=k) (r:=r) oI;show(iV x.op::iV x.a::iV 0::(dP iB (psI l)++r)).set ((k+1)*3+1) _=iV x.op::iV x.a::iV 0::(dP iB (psI (l.set k ⟨i.op,a⟩))++r)
  rw[show(k+1)*3+1=k*3+1+1+1+1 by omega,avx,avx,avx,ih]
def azx(l:ae Ins)(r:ae ah):(dP iB (psI l)++r).length=l.length*3+r.length:=by rw[fu,zJ,asS];rfl
section
variable {q:Kn} {vv vn vc vt:ah} {n:Int} {be bC:Nat} {l:ae Ins} {c:rZ} {v1 v2:ah}
def azy{x:Int}{b2 b3:Nat}(hl:l.length<30000000):akn (.func 135) [iV x] [ptr' b2,ptr' b3] [aX b2 0 [ptr' bC],aX b3 0 (ag0 c v1 v2)] q vv vn vc vt n be bC l (aa c.set x):=by
 intro vi;refine gB 135 λB w0=>?_;refine gC (an9 (q:=q) (vv:=vv) (vn:=vn) (vc:=vc) (vt:=vt) (n:=n) (be:=be) (bC:=bC) (l:=l) (c:=x) (set:=c.set) hl vi) λv1 _=>?_;refine go ?_;exact gQ v1 trivial
def azz{aH:ae (ae Int)}{k:Nat}{x:ae Int}(h:aH[k]? =some x)(f:ae Int×Nat->ae Ins):(aH.take (k+1)).zipIdx.flatMap f=(aH.take k).zipIdx.flatMap f++f (x,k):=by
 have hk:=(bz.1 h).1;rw[rP,h,ama,BZ,Xa,gW,Ae ov];simp
def axu{set n:Int}{m:Nat}:∀{l:ae (ae Int×Nat)},(∀x∈l,x.1.length<=m)->(l.flatMap (acJ set n)).length<=(3*m+7)*l.length
 |[],_=>by simp
 |x::l,h=>by
  have h1:=axu (set:=set) (n:=n) (l:=l) (λy hy=>h y qf);have h2:=aq8 (push:=aa set) (λ_=>rfl) x.1;have h3:=h x ox;have h4:(acJ set n x).length<=3*m+7:=by
   unfold acJ aak;simp only[fu,rJ,aa,List.length_nil];omega
  exact nh
def azA(hl:l.length<17000000)(hnl:q.aH.length<=256)(hnb:∀x∈q.aH,x.length<=256):FnM (.func 49) q vv vn vc vt n be bC l (anX q.aH c.set n) c v1 v2 [ay (aA aj) vn q.aH]:=by
 intro vi;refine gB 49 λB w0=>?_;refine gF (aA aj) vn q.aH λa9 c9 e9=>?_;subst e9;refine go ?_;intro b2 b3;refine gP b2 ?_;refine gP b3 ?_;refine go ?_;refine dL (λy:Nat×ah=>q.aH.length - y.1) (λy=>[(13,iV (y.1:Int))]) (λy=>ant q vv (.slice a9 q.aH.length c9) vc vt n be bC y.2 (l++(q.aH.take y.1).zipIdx.flatMap (acJ c.set n))) (λ_=>[]) (λy=>y.1<=q.aH.length) (0,vi) (bI _) (hk:=by
  rw[atL,List.zipIdx_nil,List.flatMap_nil,jo];exact bM) (body:=?_)
 rintro⟨k,w⟩ hk;dsimp only at hk⊢;have hfl:=axu (set:=c.set) (n:=n) (m:=256) (l:=(q.aH.take k).zipIdx) (λx hx=>by
  obtain⟨y,i⟩:=x;exact hnb y (FL (aV (xQ.1 hx))))
 rw[W9,gW,Ae hk]at hfl;have aBq:(3*256+7)*k<=775*256:=ov
 have hlx:(l++(q.aH.take k).zipIdx.flatMap (acJ c.set n)).length<17500000:=by rw[fu];omega
 generalize hL:l++(q.aH.take k).zipIdx.flatMap (acJ c.set n)=L at hlx⊢;refine aK ?_ ?_<;>intro h1
 .refine gX (aA aj) (xs:=q.aH) λ_ _ x (vx:ah) hx=>?_;have hxl:=hnb x (aV hx);have htl:=aq8 (push:=aa c.set) (λ_=>rfl) x;refine gC (an9 (q:=q) (vv:=vv) (vn:=.slice a9 q.aH.length c9) (vc:=vc) (vt:=vt) (n:=n) (be:=be) (bC:=bC) (l:=L) (c:=(k:Int)) (set:=c.set) ov w) λw1 _=>?_;refine atN iB (v:=w1) λa8 c8 e8=>?_;subst e8;rw[asS];refine gC (kT (q:=q) (vv:=vv) (vn:=.slice a9 q.aH.length c9) (vc:=vc) (vt:=vt) (n:=n) (be:=be) (bC:=bC) (l:=L++aa c.set (k:Int)) (op:=12) (a:=0) oy _) λw2 _=>?_;refine gC (avh (q:=q) (vv:=vv) (vn:=.slice a9 q.aH.length c9) (vc:=vc) (vt:=vt) (n:=n) (be:=be) (bC:=bC) (l:=L++aa c.set (k:Int)++([⟨12,0⟩]:ae Ins)) (pf:=.func 135) (first:=[]) (cap:=[ptr' b2,ptr' b3]) (F1:=[aX b2 0 [ptr' bC],aX b3 0 (ag0 c v1 v2)]) (push:=aa c.set) (cells:=x) (vs:=vx) (by simp only[fu,show(aa c.set (k:Int)).length=2 from rfl,show([⟨12,0⟩]:ae Ins).length=1 from rfl];omega) hxl (λ_=>rfl) (λx _ l hl=>azy hl) w2) λw3 _=>?_;have hM:(L++aa c.set (k:Int)++([⟨12,0⟩]:ae Ins)++Nb (aa c.set) x).length<18000000:=by simp only[fu,show(aa c.set (k:Int)).length=2 from rfl,show([⟨12,0⟩]:ae Ins).length=1 from rfl];omega
  refine gC (kT (q:=q) (vv:=vv) (vn:=.slice a9 q.aH.length c9) (vc:=vc) (vt:=vt) (n:=n) (be:=be) (bC:=bC) (l:=L++aa c.set (k:Int)++[⟨12,0⟩]++Nb (aa c.set) x) (op:=1) (a:=2) oy _) λw4 _=>?_;refine gC (kT (q:=q) (vv:=vv) (vn:=.slice a9 q.aH.length c9) (vc:=vc) (vt:=vt) (n:=n) (be:=be) (bC:=bC) (l:=L++aa c.set (k:Int)++[⟨12,0⟩]++Nb (aa c.set) x++[⟨1,2⟩]) (op:=6) (a:=0) oy _) λw5 _=>?_;refine gC (akG (q:=q) (vv:=vv) (vn:=.slice a9 q.aH.length c9) (vc:=vc) (vt:=vt) (n:=n) (be:=be) (bC:=bC) (l:=L++aa c.set (k:Int)++[⟨12,0⟩]++Nb (aa c.set) x++[⟨1,2⟩]++[⟨6,0⟩]) oy _) λw6 _=>?_;have hLb:L++aa c.set (k:Int)++[⟨12,0⟩]++Nb (aa c.set) x++[⟨1,2⟩]++[⟨6,0⟩]++[⟨15,n⟩]=L++aa c.set (k:Int)++⟨12,0⟩::aak c.set n x:=by simp[aak]
  rw[hLb];have hat:(L++aa c.set (k:Int)).length=L.length+2:=by simp[aa]
  have hbl:(L++aa c.set (k:Int)++⟨12,0⟩::aak c.set n x).length=L.length+2+1+(aak c.set n x).length:=by rw[fu,hat,rJ];omega
  have hget:(L++aa c.set (k:Int)++⟨12,0⟩::aak c.set n x)[L.length+2]? =some ⟨12,0⟩:=by rw[sN ov,hat,um];rfl
  have hset:(L++aa c.set (k:Int)++⟨12,0⟩::aak c.set n x).set (L.length+2) ⟨12,((aak c.set n x).length:Int)⟩=L++acJ c.set n (x,k):=by
   rw[DU _ _ ov,hat,um,acJ];simp
  rw[hat];have hlb:(aak c.set n x).length<=800:=by rw[aak,fu,show([⟨1,2⟩,⟨6,0⟩,⟨15,n⟩]:ae Ins).length=3 from rfl];omega
  have hpl:=asS (L++aa c.set (k:Int)++⟨12,0⟩::aak c.set n x);rw[hbl]at hpl;generalize L++aa c.set (k:Int)++⟨12,0⟩::aak c.set n x=M at hget hset hbl hpl⊢;refine awh iB (v:=w6) (aF:=psI M) ov λb f c' r hf hr hc e=>?_;rw[hpl]at e;subst e;refine go ?_;rw[show((L.length+2+1+(aak c.set n x).length:Nat):Int) - ((L.length+2:Nat):Int) - 1=((aak c.set n x).length:Int)by omega];refine go ?_;refine jN (o:=0+(L.length+2)*3+1) (cs:=dP iB (psI M)++r) (cs':=dP iB (psI (M.set (L.length+2) ⟨12,((aak c.set n x).length:Int)⟩))++r) (v:=iV ((aak c.set n x).length:Int)) (by rw[gq];exact axt hget) (by rw[azx];omega) ?_;have avR:(psI (M.set (L.length+2) ⟨12,((aak c.set n x).length:Int)⟩)).length=L.length+2+1+(aak c.set n x).length:=by rw[asS,lu,hbl]
  rw[hpl]at hr hc;refine fA (vZ iB (psI (M.set (L.length+2) ⟨12,((aak c.set n x).length:Int)⟩))) (λw _ p _ f hf=>by cases hf) ?_;refine ax5 iB (aF:=psI (M.set (L.length+2) ⟨12,((aak c.set n x).length:Int)⟩)) (b:=b) (f:=f) (c:=c') (m:=L.length+2+1+(aak c.set n x).length) (r:=r) (by rw[avR]) hf (by rw[avR];exact hr) (by rw[avR];exact hc) ?_;rw[hset,show L++acJ c.set n (x,k)=l++(q.aH.take (k+1)).zipIdx.flatMap (acJ c.set n)by rw[<- hL,azz hx,gp]];refine go ?_;exact aW (k+1,.slice (some ⟨b,0,some f⟩) (L.length+2+1+(aak c.set n x).length) c') (by show q.aH.length - (k+1)<q.aH.length - k;omega) oH
 have hke:k=q.aH.length:=ov
 subst hke;rw[dK]at hL;refine gC (axq (q:=q) (vv:=vv) (vn:=.slice a9 q.aH.length c9) (vc:=vc) (vt:=vt) (n:=n) (be:=be) (bC:=bC) (l:=L) (c:=c) (v1:=v1) (v2:=v2) ov w) λw1 _=>?_;rw[show L++ajz c.set n=l++anX q.aH c.set n by rw[<- hL,anX,gp]];refine go ?_;exact gQ w1 trivial
end
def azC{aH:ae (ae Int)}{k:Nat}{x:ae Int}(h:aH[k]? =some x):agS (aH.take (k+1))=agS (aH.take k)+x.length:=by
 unfold agS;rw[rP,h,ama,bZ,List.sum_append];simp
def azD{q:Kn}{cs:ae rZ}{k:Nat}{x:rZ}(h:cs[k]? =some x):((cs.take (k+1)).map (szC q)).sum=((cs.take k).map (szC q)).sum+szC q x:=by
 rw[rP,h,ama,bZ,List.sum_append];simp
def azE{q:Kn}{vv vn vc:ah}(hnl:q.aH.length<=256)(hnb:∀x∈q.aH,x.length<=256)(hcl:q.cons.length<=4096)(hcc:∀c∈q.cons,c.cells.length<=256):dO Tryz.prog 39 [.agg ⟨yK q vv vn vc⟩] [ay (aA aj) vn q.aH,ay qH vc q.cons] (iV (szP q:Int)):=by
 have he:∀k,agS (q.aH.take k)<=256*256:=λk=>by
  have:=awX (aH:=q.aH.take k) (n:=256) (λl hl=>hnb l (FL hl));rw[gW]at this;have h2:256*min k q.aH.length<=256*256:=Nat.mul_le_mul_left _ ov;omega
 have hz:∀k,((q.cons.take k).map (szC q)).sum<=65793*4096:=λk=>by
  have h0:=he q.aH.length;rw[dK]at h0;have:∀cs:ae rZ,(∀c∈cs,c.cells.length<=256)->(cs.map (szC q)).sum<=65793*cs.length:=by
   intro cs;induction cs with
   |nil=>intro _;simp
   |cons c cs ih=>
    intro h;have h1:=h c ox;have h2:=ih (λx hx=>h x oR);have h3:szC q c<=65793:=by unfold szC;split<;>omega
    rw[iX,FJ,rJ];omega
  have h1:=this (q.cons.take k) (λc hc=>hcc c (FL hc));rw[gW]at h1;omega
 refine gB 39 λB w0=>?_;refine go ?_;intro b1;refine gP b1 ?_;refine gF (aA aj) vn q.aH λa9 c9 e9=>?_;subst e9;refine gF qH vc q.cons λa8 c8 e8=>?_;subst e8;refine gL (λk=>q.aH.length - k) (λk:Nat=>[(12,iV (k:Int)),(3,iV (agS (q.aH.take k):Int))]) (λk=>k<=q.aH.length) 0 (bI _) ?_;intro k hk;have Ti:=he k;refine aK ?_ ?_<;>intro h1
 .refine gX (aA aj) (xs:=q.aH) λ_ _ x (vx:ah) hx=>?_;have hxl:=hnb x (aV hx);have hed:=azC hx;refine gF aj vx x λa7 c7 e7=>?_;subst e7;refine go ?_;exact aW (k+1) ov ov (hl:=⟨rfl,by rw[hed];rfl,oV⟩)
 have hke:k=q.aH.length:=ov
 subst hke;rw[dK]at Ti⊢;refine gL (λk=>q.cons.length - k) (λk:Nat=>[(24,iV (k:Int)),(6,iV ((1+((q.cons.take k).map (szC q)).sum:Nat):Int))]) (λk=>k<=q.cons.length) 0 (bI _) ?_;intro k hk;have hzk:=hz k;refine aK ?_ ?_<;>intro h1
 .refine gX qH (xs:=q.cons) λ_ _ c (y:ah×ah) hc=>?_;have hcl':=hcc c (aV hc);have hsz:=azD (q:=q) hc;obtain⟨y1,y2⟩:=y;dsimp only[qH];refine gF aj y1 c.cells λa7 c7 e7=>?_;subst e7;refine go ?_;intro b8;refine aK ?_ ?_<;>intro h2
  .refine go ?_;refine aW (k+1) ov ov (hl:=⟨rfl,?_,oV⟩);rw[hsz,szC,if_pos h2];exact mW
  .refine go ?_;refine aW (k+1) ov ov (hl:=⟨rfl,?_,oV⟩);rw[hsz,szC,if_neg h2];exact mW
 have hke:k=q.cons.length:=ov
 subst hke;rw[dK];exact dH
def jW.avj{g:ae (ae Int)}(h:jW g):nQ g:=λi l hl n hn=>by
 obtain⟨k,hk⟩:=gT hn;have:=h.ok i l hl k n hk;exact⟨⟨this.1,this.2.1⟩,this.2.2.2.2⟩
def jW.avk{g:ae (ae Int)}(h:jW g):(∀l∈g,l.Nodup)/\∀(i:Nat) l,g[i]? =some l->(i:Int)∉l:=by
 constructor
 .intro l hl;obtain⟨i,hi⟩:=gT hl;have:=λk n hk=>(h.ok i l hi k n hk).2.2.2.1;have hp:∀(d a:Nat) (x y:Int),l[a]? =some x->l[a+1+d]? =some y->x<y:=by
   intro d;induction d with
   |zero=>intro a x y hx hy;exact this (a+1) y hy x ov hx
   |succ d ih=>
    intro a x y hx hy;have hlt:a+1+d<l.length:=by have:=(bz.1 hy).1;omega
    have h1:=ih a x _ hx (bN hlt);have h2:=this (a+1+d+1) y hy _ ov (bN hlt);omega
  rw[List.nodup_iff_pairwise_ne,zf];intro a b ha hb hab e;have:=hp (b - a - 1) a _ _ (bN ha) (by rw[show a+1+(b - a - 1)=b by omega];exact bN hb);omega
 .intro i l hl hm;obtain⟨k,hk⟩:=gT hm;exact(h.ok i l hl k _ hk).2.2.1 rfl
abbrev axv(C S:Int)(vv vn vt vi:ah):ae ah:=[iV C,iV S,vv,vn,vt,vi]
def avS{N:Nat}(hN:1<=N):∀l:ae Ins,l.length<=jb N l
 |[]=>bG _
 |i::l=>by
  have:=avS hN l;rw[jb,rJ];unfold y7;split<;>omega
def azG{q:Kn}{k:Nat}{c:rZ}(h:q.cons[k]? =some c):j4 q 0 0 (q.cons.take (k+1))=j4 q 0 0 (q.cons.take k)++ach q ((iA (q.cons.take k)).length:Int) (k:Int) c/\iA (q.cons.take (k+1))=iA (q.cons.take k)++aa7 c:=by
 have hk:=(bz.1 h).1;rw[rP,h,ama,awp,gq,gq,gW,Ae ov];exact⟨rfl,by unfold iA;rw[Xa];simp⟩
def avT:∀cs:ae rZ,(iA cs).length<=cs.length
 |[]=>bG _
 |c::cs=>by
  have:=avT cs;have h1:(aa7 c).length<=1:=by unfold aa7;split<;>simp
  show(aa7 c++iA cs).length<=_;rw[fu,rJ];omega
def axw{l:ae Int}(h:l.length=2):∃u v,l=[u,v]:=by
 match l,h with
 |[u,v],_=>exact⟨u,v,rfl⟩
structure CpY where
 vt:Value
 vi:Value
def azI{q:Kn}{vv vn vc:ah}(hok:au2 q)(hs:au4 q)(hz:64*szP q<=16777216):aY Tryz.prog (.func 10) [.agg ⟨yK q vv vn vc⟩] [] [] [ay aj vv q.values,ay (aA aj) vn q.aH,ay qH vc q.cons]
 (λy:CpY=>.tuple ⟨[.agg ⟨axv q.cells q.symbols vv vn y.vt y.vi⟩,iV 0]⟩) (λ_=>[]) (λy=>[ay (aA aj) y.vt (iA q.cons),ay iB y.vi (j4 q 0 0 q.cons)]) (λ_=>True):=by
 have h1:=hok.cells;have h2:=hok.symbols;have h3:=hok.tT;have h4:=hok.many;have hgl:=hok.au3.len;have as0:q.symbols=(q.symbols.toNat:Int):=ov
 have hnl:∀x∈q.aH,x.length<=256:=λx hx=>by
  obtain⟨i,hi⟩:=gT hx;have hnd:=(hok.au3.avk).1 x hx;have:=an4 hnd (m:=adm (List.replicate q.aH.length true) q.aH.length) (λc hc=>by
   obtain⟨j,hj⟩:=gT hc;have:=hok.au3.ok i x hi j c hj;exact agt.2 ⟨this.1,this.2.1,by unfold dU;rw[DV,aeS,if_pos ov];rfl⟩)
  rw[ajA]at this;have:=akY (List.replicate q.aH.length true) q.aH.length;omega
 have hfin:∀c∈q.cons,TM (q.aH.length:Int) (q.symbols.toNat:Int) c:=λc hc=>by rw[h3,<- as0];exact hok.fine c hc
 have hcc:∀c∈q.cons,c.cells.length<=256:=λc hc=>by
  rcases(hok.fine c hc).len with h|h
  .omega
  .rw[h];simp
 have hpl:∀k,(j4 q 0 0 (q.cons.take k)).length<=16777216:=λk=>by
  have e1:=avJ (N:=q.aH.length) as0 ov rfl (q.cons.take k) 0 0 (λc hc=>hfin c (FL hc));have e2:=avS (N:=q.aH.length) ov (j4 q 0 0 (q.cons.take k));have e3:((q.cons.take k).map (szC q)).sum<=(q.cons.map (szC q)).sum:=by
   have:q.cons.map (szC q)=(q.cons.take k).map (szC q)++(q.cons.drop k).map (szC q):=by rw[<- bZ,l5]
   rw[this,List.sum_append];omega
  unfold szP at hz;omega
 refine gB 10 λB w0=>?_;refine gF aj vv q.values λa7 c7 e7=>?_;subst e7;refine gF (aA aj) vn q.aH λa9 c9 e9=>?_;subst e9;refine gF qH vc q.cons λa8 c8 e8=>?_;subst e8;refine go ?_;intro b1 b2;refine gP b1 ?_;refine gC (aw1 (q:=q) hs) λr hr=>?_;obtain rfl:=hr.2 hok;refine gC (azE (q:=q) hgl hnl h4 hcc) λ_ _=>?_;refine aK ?_ ?_<;>intro h
 .exfalso;omega
 refine go ?_;intro bC be b6;refine gP be ?_;refine gP b6 ?_;refine awg iB ?_;refine kv (aA aj) ?_;refine dL (λy:Nat×ah×az Addr×Int=>q.cons.length - y.1) (λy=>[(40,iV (y.1:Int))]) (λy=>[pt bC (.cells (cmpL q (.slice a7 q.values.length c7) (.slice a9 q.aH.length c9) (.slice a8 q.cons.length c8) (.slice y.2.2.1 (iA (q.cons.take y.1)).length (iA (q.cons.take y.1)).length) y.2.1 y.2.2.2 be)),sk iB y.2.1 (psI (j4 q 0 0 (q.cons.take y.1))),ap (aA aj) (.slice y.2.2.1 (iA (q.cons.take y.1)).length (iA (q.cons.take y.1)).length) (iA (q.cons.take y.1))]) (λ_=>[]) (λy=>y.1<=q.cons.length) (0,.slice none 0 0,none,0) (bI _) (hk:=by
  rw[atL];exact bM) (body:=?_)
 rintro⟨k,w,at_,n0⟩ hk;dsimp only at hk⊢;have hpk:=hpl k;have htl:=avT (q.cons.take k);rw[gW]at htl;refine aK ?_ ?_<;>intro h
 .refine gX qH (xs:=q.cons) λ_ _ c (y:ah×ah) hc=>?_;obtain⟨hp1,hp2⟩:=azG hc;have hcm:=aV hc;have hf:=hok.fine c hcm;have hcl:=hcc c hcm;have hkd:=hf.kind;have hlo:=hf.lo;have asB:=hf.two;have hrl:=hf.au0;have hru:=hf.runs;obtain⟨kd,cells,set,other,lo,hi,runs,rule,aG⟩:=c;obtain⟨v1,v2⟩:=y;dsimp only[qH]at hkd hlo asB hcl hrl hru hp1 hp2⊢;refine go ?_;intro b8;refine go ?_;have hk9:kd=1\/kd=2\/kd=3\/kd=4\/kd=5\/kd=6\/kd=7\/kd=8\/kd=9:=by omega
  rcases hk9 with rfl|rfl|rfl|rfl|rfl|rfl|rfl|rfl|rfl
  .refine gC (azo (S:=q.symbols.toNat) (q:=q) (vv:=.slice a7 q.values.length c7) (vn:=.slice a9 q.aH.length c9) (vc:=.slice a8 q.cons.length c8) (vt:=.slice at_ (iA (q.cons.take k)).length (iA (q.cons.take k)).length) (n:=(k:Int)) (be:=be) (bC:=bC) (l:=j4 q 0 0 (q.cons.take k)) (c:=⟨1,cells,set,other,lo,hi,runs,rule,aG⟩) (v1:=v1) (v2:=v2) as0 ov ov hcl w) λw1 _=>?_;rw[show j4 q 0 0 (q.cons.take k)++aqR q.symbols.toNat cells (k:Int)=j4 q 0 0 (q.cons.take (k+1))by rw[hp1];unfold ach;simp];rw[show iA (q.cons.take k)=iA (q.cons.take (k+1))by rw[hp2];unfold aa7;simp];refine go ?_;exact aW (k+1,w1,at_,(k:Int)) px oH
  .refine gC (azm (q:=q) (vv:=.slice a7 q.values.length c7) (vn:=.slice a9 q.aH.length c9) (vc:=.slice a8 q.cons.length c8) (vt:=.slice at_ (iA (q.cons.take k)).length (iA (q.cons.take k)).length) (n:=(k:Int)) (be:=be) (bC:=bC) (l:=j4 q 0 0 (q.cons.take k)) (c:=⟨2,cells,set,other,lo,hi,runs,rule,aG⟩) (v1:=v1) (v2:=v2) ov hcl hlo w) λw1 _=>?_;rw[show j4 q 0 0 (q.cons.take k)++(Nb (aa set) cells++acv lo hi (k:Int))=j4 q 0 0 (q.cons.take (k+1))by rw[hp1];unfold ach;simp];rw[show iA (q.cons.take k)=iA (q.cons.take (k+1))by rw[hp2];unfold aa7;simp];refine go ?_;exact aW (k+1,w1,at_,(k:Int)) px oH
  .refine gC (azn (q:=q) (vv:=.slice a7 q.values.length c7) (vn:=.slice a9 q.aH.length c9) (vc:=.slice a8 q.cons.length c8) (vt:=.slice at_ (iA (q.cons.take k)).length (iA (q.cons.take k)).length) (n:=(k:Int)) (be:=be) (bC:=bC) (l:=j4 q 0 0 (q.cons.take k)) (c:=⟨3,cells,set,other,lo,hi,runs,rule,aG⟩) (v1:=v1) (v2:=v2) ov hcl hlo w) λw1 _=>?_;rw[show j4 q 0 0 (q.cons.take k)++(Nb aL cells++acv lo hi (k:Int))=j4 q 0 0 (q.cons.take (k+1))by rw[hp1];unfold ach;simp];rw[show iA (q.cons.take k)=iA (q.cons.take (k+1))by rw[hp2];unfold aa7;simp];refine go ?_;exact aW (k+1,w1,at_,(k:Int)) px oH
  .refine gC (azp (q:=q) (vv:=.slice a7 q.values.length c7) (vn:=.slice a9 q.aH.length c9) (vc:=.slice a8 q.cons.length c8) (vt:=.slice at_ (iA (q.cons.take k)).length (iA (q.cons.take k)).length) (n:=(k:Int)) (be:=be) (bC:=bC) (l:=j4 q 0 0 (q.cons.take k)) (c:=⟨4,cells,set,other,lo,hi,runs,rule,aG⟩) (v1:=v1) (v2:=v2) ov hcl w) λw1 _=>?_;rw[show j4 q 0 0 (q.cons.take k)++aqT cells (k:Int)=j4 q 0 0 (q.cons.take (k+1))by rw[hp1];unfold ach;simp];rw[show iA (q.cons.take k)=iA (q.cons.take (k+1))by rw[hp2];unfold aa7;simp];refine go ?_;exact aW (k+1,w1,at_,(k:Int)) px oH
  .refine gC (azv (q:=q) (vv:=.slice a7 q.values.length c7) (vn:=.slice a9 q.aH.length c9) (vc:=.slice a8 q.cons.length c8) (at_:=at_) (ts:=iA (q.cons.take k)) (n:=(k:Int)) (be:=be) (bC:=bC) (l:=j4 q 0 0 (q.cons.take k)) (c:=⟨5,cells,set,other,lo,hi,runs,rule,aG⟩) (v1:=v1) (v2:=v2) (vi:=w) ov hcl hrl hru ov) λy _=>?_;obtain⟨w1,ad⟩:=y;dsimp only;have axy:iA (q.cons.take (k+1))=iA (q.cons.take k)++[aam (mi runs)]:=by rw[hp2];unfold aa7;simp
   have hp3:(iA (q.cons.take (k+1))).length=(iA (q.cons.take k)).length+1:=by rw[axy];simp
   rw[show j4 q 0 0 (q.cons.take k)++aoT cells set ((iA (q.cons.take k)).length:Int) ((mi runs).length:Int) (k:Int)=j4 q 0 0 (q.cons.take (k+1))by rw[hp1];unfold ach;simp];rw[<- axy,<- hp3];refine go ?_;exact aW (k+1,w1,ad,(k:Int)) px oH
  .obtain⟨u,v,rfl⟩:=axw (asB (.inl rfl));refine gC (azq (q:=q) (vv:=.slice a7 q.values.length c7) (vn:=.slice a9 q.aH.length c9) (vc:=.slice a8 q.cons.length c8) (vt:=.slice at_ (iA (q.cons.take k)).length (iA (q.cons.take k)).length) (n:=(k:Int)) (be:=be) (bC:=bC) (l:=j4 q 0 0 (q.cons.take k)) (c:=⟨6,[u,v],set,other,lo,hi,runs,rule,aG⟩) (v1:=v1) (v2:=v2) ov rfl w) λw1 _=>?_;rw[show j4 q 0 0 (q.cons.take k)++aoU u v lo (k:Int)=j4 q 0 0 (q.cons.take (k+1))by rw[hp1];unfold ach;simp];rw[show iA (q.cons.take k)=iA (q.cons.take (k+1))by rw[hp2];unfold aa7;simp];refine go ?_;exact aW (k+1,w1,at_,(k:Int)) px oH
  .obtain⟨u,v,rfl⟩:=axw (asB (.inr rfl));refine gC (azr (q:=q) (vv:=.slice a7 q.values.length c7) (vn:=.slice a9 q.aH.length c9) (vc:=.slice a8 q.cons.length c8) (vt:=.slice at_ (iA (q.cons.take k)).length (iA (q.cons.take k)).length) (n:=(k:Int)) (be:=be) (bC:=bC) (l:=j4 q 0 0 (q.cons.take k)) (c:=⟨7,[u,v],set,other,lo,hi,runs,rule,aG⟩) (v1:=v1) (v2:=v2) ov rfl w) λw1 _=>?_;rw[show j4 q 0 0 (q.cons.take k)++aqA u v set other (k:Int)=j4 q 0 0 (q.cons.take (k+1))by rw[hp1];unfold ach;simp];rw[show iA (q.cons.take k)=iA (q.cons.take (k+1))by rw[hp2];unfold aa7;simp];refine go ?_;exact aW (k+1,w1,at_,(k:Int)) px oH
  .refine gC (axq (q:=q) (vv:=.slice a7 q.values.length c7) (vn:=.slice a9 q.aH.length c9) (vc:=.slice a8 q.cons.length c8) (vt:=.slice at_ (iA (q.cons.take k)).length (iA (q.cons.take k)).length) (n:=(k:Int)) (be:=be) (bC:=bC) (l:=j4 q 0 0 (q.cons.take k)) (c:=⟨8,cells,set,other,lo,hi,runs,rule,aG⟩) (v1:=v1) (v2:=v2) ov w) λw1 _=>?_;rw[show j4 q 0 0 (q.cons.take k)++ajz set (k:Int)=j4 q 0 0 (q.cons.take (k+1))by rw[hp1];unfold ach;simp];rw[show iA (q.cons.take k)=iA (q.cons.take (k+1))by rw[hp2];unfold aa7;simp];refine go ?_;exact aW (k+1,w1,at_,(k:Int)) px oH
  .refine gC (azA (q:=q) (vv:=.slice a7 q.values.length c7) (vn:=.slice a9 q.aH.length c9) (vc:=.slice a8 q.cons.length c8) (vt:=.slice at_ (iA (q.cons.take k)).length (iA (q.cons.take k)).length) (n:=(k:Int)) (be:=be) (bC:=bC) (l:=j4 q 0 0 (q.cons.take k)) (c:=⟨9,cells,set,other,lo,hi,runs,rule,aG⟩) (v1:=v1) (v2:=v2) ov hgl hnl w) λw1 _=>?_;rw[show j4 q 0 0 (q.cons.take k)++anX q.aH set (k:Int)=j4 q 0 0 (q.cons.take (k+1))by rw[hp1];unfold ach;simp];rw[show iA (q.cons.take k)=iA (q.cons.take (k+1))by rw[hp2];unfold aa7;simp];refine go ?_;exact aW (k+1,w1,at_,(k:Int)) px oH
 have hke:k=q.cons.length:=ov
 subst hke;rw[dK];refine atN iB (v:=w) λa1 c1 e1=>?_;subst e1;refine go ?_;refine gZ (ja (E:=aA aj) (v:=.slice at_ (iA q.cons).length (iA q.cons).length) (xs:=iA q.cons)) ?_;refine gZ (awk iB (v:=.slice a1 (psI (j4 q 0 0 q.cons)).length c1) (aF:=psI (j4 q 0 0 q.cons))) ?_;rw[azi];exact gQ ⟨.slice at_ (iA q.cons).length (iA q.cons).length,.slice a1 (psI (j4 q 0 0 q.cons)).length c1⟩ trivial
