/- Part. -/
import Derived.Test.YtgimfpcgbmpkhaaGreatLibBV
import Derived.Test.YtgimfpcgbmpkhaaGreatIdealPV
set_option linter.all false
set_option maxRecDepth 10000
set_option maxHeartbeats 4000000
namespace Go.Proofs.YtgimfpcgbmpkhaaGreat
open Go.Ideal Gph Vm
def iB:Enc Ins:=⟨3,Unit,λx _=>[iV x.op,iV x.a,iV 0],λ_ _=>[],λ_ _=>rfl⟩
abbrev psI(l:ae Ins):ae (Ins×iB.Y):=l.map λx=>(x,())
def azh(a b:ae Ins):psI a++psI b=psI (a++b):=by unfold psI;rw[bZ]
def asS(l:ae Ins):(psI l).length=l.length:=bi ..
def azi(l:ae Ins):(psI l).map (·.1)=l:=by unfold psI;rw[rO];exact List.map_id _
abbrev cmpL(q:Kn)(vv vn vc vt vi:ah)(n:Int)(be:Nat):ae ah:=
 [iV q.cells,iV q.symbols,vv,vn,vc,iV q.cells,iV q.symbols,vv,vn,vt,vi,iV n,.func (.func 40) ⟨[]⟩ ⟨[ptr' be]⟩]
abbrev ant(q:Kn)(vv vn vc vt:ah)(n:Int)(be bC:Nat)(vi:ah)(l:ae Ins):ae OA:=[pt bC (.cells (cmpL q vv vn vc vt vi n be)),sk iB vi (psI l)]
abbrev akn(fn:Fn)(args cap:ae ah)(F:ae aI)(q:Kn)(vv vn vc vt:ah)(n:Int)(be bC:Nat)(l add:ae Ins):Prop:=
 ∀vi:ah,aY Tryz.prog fn args cap (ant q vv vn vc vt n be bC vi l) (aX be 0 [ptr' bC]::F) (λ_:ah=>.tuple ⟨[]⟩) (λv=>ant q vv vn vc vt n be bC v (l++add)) (λ_=>[]) (λ_=>True)
section
variable {q:Kn} {vv vn vc vt:ah} {n:Int} {be bC:Nat} {l:ae Ins}
def kT{op a:Int}(hl:l.length<40000000):akn (.func 40) [iV op,iV a] [ptr' be] [] q vv vn vc vt n be bC l [⟨op,a⟩]:=by
 intro vi;have hpl:=asS l;refine gB 40 λB w0=>?_;refine go ?_;intro b14;refine go ?_;refine awj iB (v:=vi) (aF:=psI l) ⟨op,a⟩ () ⟨ov,ov,ov⟩ (λv'=>?_);rw[show psI l++[((⟨op,a⟩,()):Ins×iB.Y)]=psI (l++[⟨op,a⟩])by rw[<- azh];rfl];refine atN iB (v:=v') λa1 c1 e1=>?_;subst e1;refine go ?_;exact gQ (.slice a1 _ c1) trivial
def an9{c set:Int}(hl:l.length<30000000):akn (.func 130) [ptr' bC,iV c,iV set] [] [] q vv vn vc vt n be bC l (aa set c):=by
 intro vi;refine gB 130 λB w0=>?_;refine gC (kT (q:=q) (vv:=vv) (vn:=vn) (vc:=vc) (vt:=vt) (n:=n) (be:=be) (bC:=bC) (l:=l) (op:=2) (a:=c) oy _) λv1 _=>?_;refine gC (kT (q:=q) (vv:=vv) (vn:=vn) (vc:=vc) (vt:=vt) (n:=n) (be:=be) (bC:=bC) (l:=l++[⟨2,c⟩]) (op:=4) (a:=set) oy _) λv2 _=>?_;rw[show l++[⟨2,c⟩]++[⟨4,set⟩]=l++aa set c by simp[aa]];refine go ?_;exact gQ v2 trivial
def aqF{c:Int}(hl:l.length<30000000):akn (.func 134) [ptr' bC,iV c] [] [] q vv vn vc vt n be bC l (aL c):=by
 intro vi;refine gB 134 λB w0=>?_;refine gC (kT (q:=q) (vv:=vv) (vn:=vn) (vc:=vc) (vt:=vt) (n:=n) (be:=be) (bC:=bC) (l:=l) (op:=2) (a:=c) oy _) λv1 _=>?_;refine gC (kT (q:=q) (vv:=vv) (vn:=vn) (vc:=vc) (vt:=vt) (n:=n) (be:=be) (bC:=bC) (l:=l++[⟨2,c⟩]) (op:=3) (a:=0) oy _) λv2 _=>?_;rw[show l++[⟨2,c⟩]++[⟨3,0⟩]=l++aL c by simp[aL]];refine go ?_;exact gQ v2 trivial
def akG(hl:l.length<40000000):akn (.func 131) [ptr' bC] [] [] q vv vn vc vt n be bC l [⟨15,n⟩]:=by
 intro vi;refine gB 131 λB w0=>?_;refine gC (kT (q:=q) (vv:=vv) (vn:=vn) (vc:=vc) (vt:=vt) (n:=n) (be:=be) (bC:=bC) (l:=l) (op:=15) (a:=n) oy _) λv1 _=>?_;refine go ?_;exact gQ v1 trivial
def avQ{push:Int->ae Ins}(h:∀c,(push c).length=2):∀cs:ae Int,(CE push cs).length<=3*cs.length
 |[]=>by simp[CE]
 |c::cs=>by
  have:∀cs:ae Int,(acu push cs).length=3*cs.length:=by
   intro cs;induction cs with
   |nil=>simp[acu]
   |cons d cs ih=>rw[acu];simp[h,ih];omega
  rw[CE];simp[h,this];omega
def avh{pf:Fn}{first cap:ae ah}{F1:ae aI}{push:Int->ae Ins}{cells:ae Int}{vs:ah}(hl:l.length<20000000)(hcl:cells.length<=256)(hpl:∀c,(push c).length=2)
 (hp:∀c∈cells,∀l:ae Ins,l.length<30000000->akn pf (first++[iV c]) cap F1 q vv vn vc vt n be bC l (push c)):
 akn (.func 128) [ptr' bC,vs,.func pf ⟨first⟩ ⟨cap⟩] [] (ay aj vs cells::F1) q vv vn vc vt n be bC l (Nb push cells):=by
 intro vi;refine gB 128 λB w0=>?_;refine gF aj vs cells λa1 c1 e1=>?_;subst e1;refine aK ?_ ?_<;>intro h0
 .have h0':cells.length=0:=by omega
  refine gC (kT (q:=q) (vv:=vv) (vn:=vn) (vc:=vc) (vt:=vt) (n:=n) (be:=be) (bC:=bC) (l:=l) (op:=1) (a:=0) oy _) λv0 _=>?_;refine go ?_;refine dL (λy:Nat×ah=>cells.length - y.1) (λy=>[(18,iV (y.1:Int))]) (λy=>ant q vv vn vc vt n be bC y.2 (l++[⟨1,0⟩]++CE push (cells.take y.1))) (λ_=>[]) (λy=>y.1<=cells.length) (0,v0) (bI _) (hk:=by
   rw[atL,CE,jo];exact bM) (body:=?_)
  rintro⟨k,w⟩ hk;dsimp only at hk⊢;have hal:=avQ hpl (cells.take k);rw[gW]at hal;have hpx:∀x,(push x).length=2:=hpl;refine aK ?_ ?_<;>intro h1
  .refine go ?_;intro _ _ x hx;have azj:=hpl x;have htk:CE push (cells.take (k+1))=CE push (cells.take k)++(push x++if k=0 then[]else[⟨5,0⟩]):=by
    rw[rP,hx,ama,awq,gW,Ae hk]
   refine gC (hp x (aV hx) (l++[⟨1,0⟩]++CE push (cells.take k)) oF w) λv1 _=>?_;refine aK ?_ ?_<;>intro h2
   .refine gC (kT (q:=q) (vv:=vv) (vn:=vn) (vc:=vc) (vt:=vt) (n:=n) (be:=be) (bC:=bC) (l:=l++[⟨1,0⟩]++CE push (cells.take k)++push x) (op:=5) (a:=0) oy _) λv2 _=>?_;refine go ?_;rw[show l++[⟨1,0⟩]++CE push (cells.take k)++push x++[⟨5,0⟩]=l++[⟨1,0⟩]++CE push (cells.take (k+1))by rw[htk,if_neg ov];simp];exact aW (k+1,v2) pA oH
   .refine go ?_;rw[show l++[⟨1,0⟩]++CE push (cells.take k)++push x=l++[⟨1,0⟩]++CE push (cells.take (k+1))by rw[htk,if_pos ov];simp];exact jn
  have hke:k=cells.length:=ov
  subst hke;rw[dK,show l++[⟨1,0⟩]++CE push cells=l++Nb push cells by simp[Nb,h0',pU.1 h0',CE]];exact iz
 .have h0':¬cells.length=0:=by omega
  refine go ?_;refine dL (λy:Nat×ah=>cells.length - y.1) (λy=>[(18,iV (y.1:Int))]) (λy=>ant q vv vn vc vt n be bC y.2 (l++CE push (cells.take y.1))) (λ_=>[]) (λy=>y.1<=cells.length) (0,vi) (bI _) (hk:=by
   rw[atL,CE,jo];exact bM) (body:=?_)
  rintro⟨k,w⟩ hk;dsimp only at hk⊢;have hal:=avQ hpl (cells.take k);rw[gW]at hal;have hpx:∀x,(push x).length=2:=hpl;refine aK ?_ ?_<;>intro h1
  .refine go ?_;intro _ _ x hx;have azj:=hpl x;have htk:CE push (cells.take (k+1))=CE push (cells.take k)++(push x++if k=0 then[]else[⟨5,0⟩]):=by
    rw[rP,hx,ama,awq,gW,Ae hk]
   refine gC (hp x (aV hx) (l++CE push (cells.take k)) oF w) λv1 _=>?_;refine aK ?_ ?_<;>intro h2
   .refine gC (kT (q:=q) (vv:=vv) (vn:=vn) (vc:=vc) (vt:=vt) (n:=n) (be:=be) (bC:=bC) (l:=l++CE push (cells.take k)++push x) (op:=5) (a:=0) oy _) λv2 _=>?_;refine go ?_;rw[show l++CE push (cells.take k)++push x++[⟨5,0⟩]=l++CE push (cells.take (k+1))by rw[htk,if_neg ov];simp];exact aW (k+1,v2) pA oH
   .refine go ?_;rw[show l++CE push (cells.take k)++push x=l++CE push (cells.take (k+1))by rw[htk,if_pos ov];simp];exact jn
  have hke:k=cells.length:=ov
  subst hke;rw[dK,show l++CE push cells=l++Nb push cells by simp[Nb,h0']];exact iz
def axo{lo hi:Int}(hl:l.length<30000000)(hlo:0<=lo/\lo<=65536):akn (.func 133) [ptr' bC,iV lo,iV hi] [] [] q vv vn vc vt n be bC l (acv lo hi n):=by
 intro vi;refine gB 133 λB w0=>?_;refine gC (kT (q:=q) (vv:=vv) (vn:=vn) (vc:=vc) (vt:=vt) (n:=n) (be:=be) (bC:=bC) (l:=l) (op:=9) (a:=1) oy _) λv0 _=>?_;refine aK ?_ ?_<;>intro h0
 .refine gC (kT (q:=q) (vv:=vv) (vn:=vn) (vc:=vc) (vt:=vt) (n:=n) (be:=be) (bC:=bC) (l:=l++[⟨9,1⟩]) (op:=1) (a:=lo - 1) oy _) λv1 _=>?_;refine gC (kT (q:=q) (vv:=vv) (vn:=vn) (vc:=vc) (vt:=vt) (n:=n) (be:=be) (bC:=bC) (l:=l++[⟨9,1⟩]++[⟨1,lo - 1⟩]) (op:=10) (a:=1) oy _) λv2 _=>?_;refine gC (kT (q:=q) (vv:=vv) (vn:=vn) (vc:=vc) (vt:=vt) (n:=n) (be:=be) (bC:=bC) (l:=l++[⟨9,1⟩]++[⟨1,lo - 1⟩]++[⟨10,1⟩]) (op:=7) (a:=0) oy _) λv3 _=>?_;refine gC (akG (q:=q) (vv:=vv) (vn:=vn) (vc:=vc) (vt:=vt) (n:=n) (be:=be) (bC:=bC) (l:=l++[⟨9,1⟩]++[⟨1,lo - 1⟩]++[⟨10,1⟩]++[⟨7,0⟩]) oy _) λv4 _=>?_;refine gC (kT (q:=q) (vv:=vv) (vn:=vn) (vc:=vc) (vt:=vt) (n:=n) (be:=be) (bC:=bC) (l:=l++[⟨9,1⟩]++[⟨1,lo - 1⟩]++[⟨10,1⟩]++[⟨7,0⟩]++[⟨15,n⟩]) (op:=1) (a:=hi) oy _) λv5 _=>?_;refine gC (kT (q:=q) (vv:=vv) (vn:=vn) (vc:=vc) (vt:=vt) (n:=n) (be:=be) (bC:=bC) (l:=l++[⟨9,1⟩]++[⟨1,lo - 1⟩]++[⟨10,1⟩]++[⟨7,0⟩]++[⟨15,n⟩]++[⟨1,hi⟩]) (op:=10) (a:=1) oy _) λv6 _=>?_;refine gC (kT (q:=q) (vv:=vv) (vn:=vn) (vc:=vc) (vt:=vt) (n:=n) (be:=be) (bC:=bC) (l:=l++[⟨9,1⟩]++[⟨1,lo - 1⟩]++[⟨10,1⟩]++[⟨7,0⟩]++[⟨15,n⟩]++[⟨1,hi⟩]++[⟨10,1⟩]) (op:=7) (a:=0) oy _) λv7 _=>?_;refine gC (kT (q:=q) (vv:=vv) (vn:=vn) (vc:=vc) (vt:=vt) (n:=n) (be:=be) (bC:=bC) (l:=l++[⟨9,1⟩]++[⟨1,lo - 1⟩]++[⟨10,1⟩]++[⟨7,0⟩]++[⟨15,n⟩]++[⟨1,hi⟩]++[⟨10,1⟩]++[⟨7,0⟩]) (op:=8) (a:=0) oy _) λv8 _=>?_;refine gC (akG (q:=q) (vv:=vv) (vn:=vn) (vc:=vc) (vt:=vt) (n:=n) (be:=be) (bC:=bC) (l:=l++[⟨9,1⟩]++[⟨1,lo - 1⟩]++[⟨10,1⟩]++[⟨7,0⟩]++[⟨15,n⟩]++[⟨1,hi⟩]++[⟨10,1⟩]++[⟨7,0⟩]++[⟨8,0⟩]) oy _) λv9 _=>?_;rw[show l++[⟨9,1⟩]++[⟨1,lo - 1⟩]++[⟨10,1⟩]++[⟨7,0⟩]++[⟨15,n⟩]++[⟨1,hi⟩]++[⟨10,1⟩]++[⟨7,0⟩]++[⟨8,0⟩]++[⟨15,n⟩]=l++acv lo hi n by simp[acv,h0]];refine go ?_;exact gQ v9 trivial
 .refine gC (kT (q:=q) (vv:=vv) (vn:=vn) (vc:=vc) (vt:=vt) (n:=n) (be:=be) (bC:=bC) (l:=l++[⟨9,1⟩]) (op:=1) (a:=hi) oy _) λv5 _=>?_;refine gC (kT (q:=q) (vv:=vv) (vn:=vn) (vc:=vc) (vt:=vt) (n:=n) (be:=be) (bC:=bC) (l:=l++[⟨9,1⟩]++[⟨1,hi⟩]) (op:=10) (a:=1) oy _) λv6 _=>?_;refine gC (kT (q:=q) (vv:=vv) (vn:=vn) (vc:=vc) (vt:=vt) (n:=n) (be:=be) (bC:=bC) (l:=l++[⟨9,1⟩]++[⟨1,hi⟩]++[⟨10,1⟩]) (op:=7) (a:=0) oy _) λv7 _=>?_;refine gC (kT (q:=q) (vv:=vv) (vn:=vn) (vc:=vc) (vt:=vt) (n:=n) (be:=be) (bC:=bC) (l:=l++[⟨9,1⟩]++[⟨1,hi⟩]++[⟨10,1⟩]++[⟨7,0⟩]) (op:=8) (a:=0) oy _) λv8 _=>?_;refine gC (akG (q:=q) (vv:=vv) (vn:=vn) (vc:=vc) (vt:=vt) (n:=n) (be:=be) (bC:=bC) (l:=l++[⟨9,1⟩]++[⟨1,hi⟩]++[⟨10,1⟩]++[⟨7,0⟩]++[⟨8,0⟩]) oy _) λv9 _=>?_;rw[show l++[⟨9,1⟩]++[⟨1,hi⟩]++[⟨10,1⟩]++[⟨7,0⟩]++[⟨8,0⟩]++[⟨15,n⟩]=l++acv lo hi n by simp[acv,h0]];refine go ?_;exact gQ v9 trivial
end
def avi{α:Type}{f:α->ae Ins}{m:Nat}(h:∀x,(f x).length<=m):∀l:ae α,(l.flatMap f).length<=m*l.length
 |[]=>by simp
 |x::l=>by
  have:=h x;have:=avi h l;exact nh
def aq8{push:Int->ae Ins}(h:∀c,(push c).length=2)(cs:ae Int):(Nb push cs).length<=3*cs.length+1:=by
 have:=avQ h cs;unfold Nb;split<;>simp<;>omega
def axp{f:Nat->ae Ins}(k:Nat):(List.range (k+1)).flatMap f=(List.range k).flatMap f++f k:=by rw[BX,Xa];simp
def getD_some{l:ae Int}{k:Nat}{x:Int}(h:l[k]? =some x):l.getD k 0=x:=by simp[List.getD,h]
section
variable {q:Kn} {vv vn vc vt:ah} {n:Int} {be bC:Nat} {l:ae Ins} {c:rZ} {v1 v2:ah}
def azk{x:Int}{s b2 b4:Nat}(hs:s<16)(hl:l.length<30000000):akn (.func 129) [iV x] [ptr' b2,ptr' b4] [aX b2 0 [ptr' bC],aX b4 0 [iV (s:Int)]] q vv vn vc vt n be bC l (aa ((1<<<s:Nat):Int) x):=by
 intro vi;have hsh:1<<<s<2^16:=by rw[aoz,BS];exact Mk ov ov
 refine gB 129 λB w0=>?_;refine go ?_;refine(dx rfl rfl (SS (a:=1) (b:=s) rfl rfl ov ov)).h ?_;refine gC (an9 (q:=q) (vv:=vv) (vn:=vn) (vc:=vc) (vt:=vt) (n:=n) (be:=be) (bC:=bC) (l:=l) (c:=x) (set:=((1<<<s:Nat):Int)) hl vi) λv1 _=>?_;refine go ?_;exact gQ v1 trivial
def azl{x:Int}{b2 b3:Nat}(hl:l.length<30000000):akn (.func 132) [iV x] [ptr' b2,ptr' b3] [aX b2 0 [ptr' bC],aX b3 0 (ag0 c v1 v2)] q vv vn vc vt n be bC l (aa c.set x):=by
 intro vi;refine gB 132 λB w0=>?_;refine gC (an9 (q:=q) (vv:=vv) (vn:=vn) (vc:=vc) (vt:=vt) (n:=n) (be:=be) (bC:=bC) (l:=l) (c:=x) (set:=c.set) hl vi) λv1 _=>?_;refine go ?_;exact gQ v1 trivial
abbrev FnM(fn:Fn)(q:Kn)(vv vn vc vt:ah)(n:Int)(be bC:Nat)(l add:ae Ins)(c:rZ)(v1 v2:ah)(F:ae aI):Prop:=
 akn fn [ptr' bC,.agg ⟨ag0 c v1 v2⟩] [] (ay aj v1 c.cells::F) q vv vn vc vt n be bC l add
def axq(hl:l.length<18000000):FnM (.func 48) q vv vn vc vt n be bC l (ajz c.set n) c v1 v2 []:=by
 intro vi;refine gB 48 λB w0=>?_;refine go ?_;intro b3;refine gP b3 ?_;refine gC (kT (q:=q) (vv:=vv) (vn:=vn) (vc:=vc) (vt:=vt) (n:=n) (be:=be) (bC:=bC) (l:=l) (op:=13) (a:=c.set) oy _) λw1 _=>?_;refine gC (kT (q:=q) (vv:=vv) (vn:=vn) (vc:=vc) (vt:=vt) (n:=n) (be:=be) (bC:=bC) (l:=l++[⟨13,c.set⟩]) (op:=14) (a:=c.set) oy _) λw2 _=>?_;refine gC (kT (q:=q) (vv:=vv) (vn:=vn) (vc:=vc) (vt:=vt) (n:=n) (be:=be) (bC:=bC) (l:=l++[⟨13,c.set⟩]++[⟨14,c.set⟩]) (op:=6) (a:=0) oy _) λw3 _=>?_;refine gC (akG (q:=q) (vv:=vv) (vn:=vn) (vc:=vc) (vt:=vt) (n:=n) (be:=be) (bC:=bC) (l:=l++[⟨13,c.set⟩]++[⟨14,c.set⟩]++[⟨6,0⟩]) oy _) λw4 _=>?_;rw[show l++[⟨13,c.set⟩]++[⟨14,c.set⟩]++[⟨6,0⟩]++[⟨15,n⟩]=l++ajz c.set n by simp[ajz]];refine go ?_;exact gQ w4 trivial
def azm(hl:l.length<17000000)(hcl:c.cells.length<=256)(hlo:0<=c.lo/\c.lo<=65536):FnM (.func 42) q vv vn vc vt n be bC l (Nb (aa c.set) c.cells++acv c.lo c.hi n) c v1 v2 []:=by
 intro vi;have htl:=aq8 (push:=aa c.set) (λ_=>rfl) c.cells;refine gB 42 λB w0=>?_;refine go ?_;intro b2 b3;refine gP b2 ?_;refine gP b3 ?_;refine gC (avh (q:=q) (vv:=vv) (vn:=vn) (vc:=vc) (vt:=vt) (n:=n) (be:=be) (bC:=bC) (l:=l) (pf:=.func 132) (first:=[]) (cap:=[ptr' b2,ptr' b3]) (F1:=[aX b2 0 [ptr' bC],aX b3 0 (ag0 c v1 v2)]) (push:=aa c.set) (cells:=c.cells) (vs:=v1) ov hcl (λ_=>rfl) (λx _ l hl=>azl hl) vi) λw1 _=>?_;refine gC (axo (q:=q) (vv:=vv) (vn:=vn) (vc:=vc) (vt:=vt) (n:=n) (be:=be) (bC:=bC) (l:=l++Nb (aa c.set) c.cells) (lo:=c.lo) (hi:=c.hi) r6 hlo w1) λw2 _=>?_;rw[gp];refine go ?_;exact gQ w2 trivial
def azn(hl:l.length<17000000)(hcl:c.cells.length<=256)(hlo:0<=c.lo/\c.lo<=65536):FnM (.func 43) q vv vn vc vt n be bC l (Nb aL c.cells++acv c.lo c.hi n) c v1 v2 []:=by
 intro vi;have htl:=aq8 (push:=aL) (λ_=>rfl) c.cells;refine gB 43 λB w0=>?_;refine go ?_;intro b3;refine gP b3 ?_;refine gC (avh (q:=q) (vv:=vv) (vn:=vn) (vc:=vc) (vt:=vt) (n:=n) (be:=be) (bC:=bC) (l:=l) (pf:=.func 134) (first:=[ptr' bC]) (cap:=[]) (F1:=[]) (push:=aL) (cells:=c.cells) (vs:=v1) ov hcl (λ_=>rfl) (λx _ l hl=>aqF hl) vi) λw1 _=>?_;refine gC (axo (q:=q) (vv:=vv) (vn:=vn) (vc:=vc) (vt:=vt) (n:=n) (be:=be) (bC:=bC) (l:=l++Nb aL c.cells) (lo:=c.lo) (hi:=c.hi) r6 hlo w1) λw2 _=>?_;rw[gp];refine go ?_;exact gQ w2 trivial
def azo{S:Nat}(hq:q.symbols=(S:Int))(hS:S<=16)(hl:l.length<17000000)(hcl:c.cells.length<=256):FnM (.func 41) q vv vn vc vt n be bC l (aqR S c.cells n) c v1 v2 []:=by
 intro vi;have hd1:∀s,(af2 c.cells n s).length<=800:=λs=>by
  have:=aq8 (push:=aa ((1<<<s:Nat):Int)) (λ_=>rfl) c.cells;rw[af2,fu,show([⟨1,2⟩,⟨7,0⟩,⟨15,n⟩]:ae Ins).length=3 from rfl];omega
 refine gB 41 λB w0=>?_;refine go ?_;intro b2 b3;refine gP b2 ?_;refine gP b3 ?_;refine go ?_;refine dL (λy:Nat×ah=>S - y.1) (λy=>[(10,iV (y.1:Int))]) (λy=>ant q vv vn vc vt n be bC y.2 (l++(List.range y.1).flatMap (af2 c.cells n))) (λ_=>[]) (λy=>y.1<=S) (0,vi) (bI _) (hk:=by
  rw[List.range_zero,List.flatMap_nil,jo];exact bM) (body:=?_)
 rintro⟨k,w⟩ hk;dsimp only at hk⊢;have hfl:=avi hd1 (List.range k);rw[o8]at hfl;refine aK ?_ ?_<;>intro h1
 .have hkS:k<S:=by omega
  have htl:=aq8 (push:=aa ((1<<<k:Nat):Int)) (λ_=>rfl) c.cells;refine go ?_;intro b4;refine go ?_;refine gP b4 ?_;refine gC (avh (q:=q) (vv:=vv) (vn:=vn) (vc:=vc) (vt:=vt) (n:=n) (be:=be) (bC:=bC) (l:=l++(List.range k).flatMap (af2 c.cells n)) (pf:=.func 129) (first:=[]) (cap:=[ptr' b2,ptr' b4]) (F1:=[aX b2 0 [ptr' bC],aX b4 0 [iV (k:Int)]]) (push:=aa ((1<<<k:Nat):Int)) (cells:=c.cells) (vs:=v1) r6 hcl (λ_=>rfl) (λx _ l hl=>azk ov hl) w) λw1 _=>?_;generalize hL:l++(List.range k).flatMap (af2 c.cells n)++Nb (aa ((1<<<k:Nat):Int)) c.cells=L;have yD:L.length<18000000:=by rw[<- hL];simp only[fu];omega
  refine gC (kT (q:=q) (vv:=vv) (vn:=vn) (vc:=vc) (vt:=vt) (n:=n) (be:=be) (bC:=bC) (l:=L) (op:=1) (a:=2) oy _) λw2 _=>?_;refine gC (kT (q:=q) (vv:=vv) (vn:=vn) (vc:=vc) (vt:=vt) (n:=n) (be:=be) (bC:=bC) (l:=L++[⟨1,2⟩]) (op:=7) (a:=0) oy _) λw3 _=>?_;refine gC (akG (q:=q) (vv:=vv) (vn:=vn) (vc:=vc) (vt:=vt) (n:=n) (be:=be) (bC:=bC) (l:=L++[⟨1,2⟩]++[⟨7,0⟩]) oy _) λw4 _=>?_;rw[show L++[⟨1,2⟩]++[⟨7,0⟩]++[⟨15,n⟩]=l++(List.range (k+1)).flatMap (af2 c.cells n)by rw[<- hL,axp,af2];simp];refine go ?_;exact aW (k+1,w4) (by show S - (k+1)<S - k;omega) oH
 have hke:k=S:=ov
 subst hke;rw[show(List.range k).flatMap (af2 c.cells n)=aqR k c.cells n from rfl];exact iz
def azp(hl:l.length<17000000)(hcl:c.cells.length<=256):FnM (.func 44) q vv vn vc vt n be bC l (aqT c.cells n) c v1 v2 []:=by
 intro vi;have hd1:∀s,(adF c.cells n s).length<=6:=λs=>by simp[adF,aL]
 refine gB 44 λB w0=>?_;refine gF aj v1 c.cells λa1 c1 e1=>?_;subst e1;refine go ?_;intro b3;refine gP b3 ?_;refine go ?_;refine dL (λy:Nat×ah=>c.cells.length - 1 - y.1) (λy=>[(4,iV ((y.1+1:Nat):Int))]) (λy=>ant q vv vn vc vt n be bC y.2 (l++(List.range y.1).flatMap (adF c.cells n))) (λ_=>[]) (λy=>y.1<=c.cells.length - 1) (0,vi) (bI _) (hk:=by
  rw[List.range_zero,List.flatMap_nil,jo];exact bM) (body:=?_)
 rintro⟨k,w⟩ hk;dsimp only at hk⊢;have hfl:=avi hd1 (List.range k);rw[o8]at hfl;refine aK ?_ ?_<;>intro h1
 .refine go ?_;rw[show((k+1:Nat):Int) - 1=(k:Int)by omega];refine go ?_;intro _ _ x hx;rw[fI]at hx;refine gC (aqF (q:=q) (vv:=vv) (vn:=vn) (vc:=vc) (vt:=vt) (n:=n) (be:=be) (bC:=bC) (l:=l++(List.range k).flatMap (adF c.cells n)) (c:=x) r6 w) λw1 _=>?_;refine go ?_;intro _ _ y hy;refine gC (aqF (q:=q) (vv:=vv) (vn:=vn) (vc:=vc) (vt:=vt) (n:=n) (be:=be) (bC:=bC) (l:=l++(List.range k).flatMap (adF c.cells n)++aL x) (c:=y) (by simp only[fu,show(aL x).length=2 from rfl];omega) w1) λw2 _=>?_;generalize hL:l++(List.range k).flatMap (adF c.cells n)++aL x++aL y=L;have yD:L.length<18000000:=by rw[<- hL];simp only[fu,show(aL x).length=2 from rfl,show(aL y).length=2 from rfl];omega
  refine gC (kT (q:=q) (vv:=vv) (vn:=vn) (vc:=vc) (vt:=vt) (n:=n) (be:=be) (bC:=bC) (l:=L) (op:=7) (a:=0) oy _) λw3 _=>?_;refine gC (akG (q:=q) (vv:=vv) (vn:=vn) (vc:=vc) (vt:=vt) (n:=n) (be:=be) (bC:=bC) (l:=L++[⟨7,0⟩]) oy _) λw4 _=>?_;rw[show L++[⟨7,0⟩]++[⟨15,n⟩]=l++(List.range (k+1)).flatMap (adF c.cells n)by rw[<- hL,axp,adF,getD_some hx,getD_some hy];simp];refine go ?_;exact aW (k+1,w4) (by show c.cells.length - 1 - (k+1)<c.cells.length - 1 - k;omega) oH
 have hke:k=c.cells.length - 1:=ov
 subst hke;rw[show(List.range (c.cells.length - 1)).flatMap (adF c.cells n)=aqT c.cells n from rfl];exact iz
end
section
variable {q:Kn} {vv vn vc vt:ah} {n:Int} {be bC:Nat} {l:ae Ins} {c:rZ} {v1 v2:ah} {u v:Int}
def apR(u v lo:Int):Nat->ae Ins
 |0=>[]
 |1=>adU u v lo
 |_=>adU u v lo++adU v u lo
def noR(u v set other n:Int):Nat->ae Ins
 |0=>[]
 |1=>agr u v set other n
 |_=>agr u v set other n++agr v u set other n
def azq(hl:l.length<17000000)(hc:c.cells=[u,v]):FnM (.func 46) q vv vn vc vt n be bC l (aoU u v c.lo n) c v1 v2 []:=by
 intro vi;have hlen:[u,v].length=2:=rfl;rw[hc];refine gB 46 λB w0=>?_;refine gF aj v1 [u,v] λa1 c1 e1=>?_;subst e1;refine go ?_;intro b3;refine gP b3 ?_;refine go ?_;refine dL (λy:Nat×ah=>2 - y.1) (λy=>[(5,iV (y.1:Int))]) (λy=>ant q vv vn vc vt n be bC y.2 (l++apR u v c.lo y.1)) (λ_=>[]) (λy=>y.1<=2) (0,vi) (bI _) (hk:=by
  rw[apR,jo];exact bM) (body:=?_)
 rintro⟨k,w⟩ hk;dsimp only at hk⊢;refine aK ?_ ?_<;>intro h1
 .have hk2:k<2:=by omega
  match k,hk2 with
  |0,_=>
   rw[show l++apR u v c.lo 0=l by simp[apR]];refine go ?_;intro _ _ x hx;cases hx;refine gC (aqF (q:=q) (vv:=vv) (vn:=vn) (vc:=vc) (vt:=vt) (n:=n) (be:=be) (bC:=bC) (l:=l) (c:=u) oy w) λw1 _=>?_;refine go ?_;rw[show(1:Int) - ((0:Nat):Int)=((1:Nat):Int)from rfl];refine go ?_;intro _ _ y hy;cases hy;refine gC (aqF (q:=q) (vv:=vv) (vn:=vn) (vc:=vc) (vt:=vt) (n:=n) (be:=be) (bC:=bC) (l:=l++aL u) (c:=v) oy w1) λw2 _=>?_;refine gC (kT (q:=q) (vv:=vv) (vn:=vn) (vc:=vc) (vt:=vt) (n:=n) (be:=be) (bC:=bC) (l:=l++aL u++aL v) (op:=1) (a:=c.lo) oy _) λw3 _=>?_;refine gC (kT (q:=q) (vv:=vv) (vn:=vn) (vc:=vc) (vt:=vt) (n:=n) (be:=be) (bC:=bC) (l:=l++aL u++aL v++[⟨1,c.lo⟩]) (op:=5) (a:=0) oy _) λw4 _=>?_;refine gC (kT (q:=q) (vv:=vv) (vn:=vn) (vc:=vc) (vt:=vt) (n:=n) (be:=be) (bC:=bC) (l:=l++aL u++aL v++[⟨1,c.lo⟩]++[⟨5,0⟩]) (op:=7) (a:=0) oy _) λw5 _=>?_;rw[show l++aL u++aL v++[⟨1,c.lo⟩]++[⟨5,0⟩]++[⟨7,0⟩]=l++apR u v c.lo (0+1)by simp[apR,adU]];refine go ?_;exact aW (0+1,w5) pC pC
  |1,_=>
   have yD:(l++apR u v c.lo 1).length<18000000:=by simp[apR,adU,aL];omega
   generalize hL:l++apR u v c.lo 1=L at yD;refine go ?_;intro _ _ x hx;cases hx;refine gC (aqF (q:=q) (vv:=vv) (vn:=vn) (vc:=vc) (vt:=vt) (n:=n) (be:=be) (bC:=bC) (l:=L) (c:=v) oy w) λw1 _=>?_;refine go ?_;rw[show(1:Int) - ((1:Nat):Int)=((0:Nat):Int)from rfl];refine go ?_;intro _ _ y hy;cases hy;refine gC (aqF (q:=q) (vv:=vv) (vn:=vn) (vc:=vc) (vt:=vt) (n:=n) (be:=be) (bC:=bC) (l:=L++aL v) (c:=u) oy w1) λw2 _=>?_;refine gC (kT (q:=q) (vv:=vv) (vn:=vn) (vc:=vc) (vt:=vt) (n:=n) (be:=be) (bC:=bC) (l:=L++aL v++aL u) (op:=1) (a:=c.lo) oy _) λw3 _=>?_;refine gC (kT (q:=q) (vv:=vv) (vn:=vn) (vc:=vc) (vt:=vt) (n:=n) (be:=be) (bC:=bC) (l:=L++aL v++aL u++[⟨1,c.lo⟩]) (op:=5) (a:=0) oy _) λw4 _=>?_;refine gC (kT (q:=q) (vv:=vv) (vn:=vn) (vc:=vc) (vt:=vt) (n:=n) (be:=be) (bC:=bC) (l:=L++aL v++aL u++[⟨1,c.lo⟩]++[⟨5,0⟩]) (op:=7) (a:=0) oy _) λw5 _=>?_;rw[show L++aL v++aL u++[⟨1,c.lo⟩]++[⟨5,0⟩]++[⟨7,0⟩]=l++apR u v c.lo (1+1)by rw[<- hL];simp[apR,adU]];refine go ?_;exact aW (1+1,w5) pC pC
 have hke:k=2:=ov
 subst hke;have yD:(l++apR u v c.lo 2).length<18000000:=by simp[apR,adU,aL];omega
 generalize hL:l++apR u v c.lo 2=L at yD;refine gC (kT (q:=q) (vv:=vv) (vn:=vn) (vc:=vc) (vt:=vt) (n:=n) (be:=be) (bC:=bC) (l:=L) (op:=5) (a:=0) oy _) λw1 _=>?_;refine gC (kT (q:=q) (vv:=vv) (vn:=vn) (vc:=vc) (vt:=vt) (n:=n) (be:=be) (bC:=bC) (l:=L++[⟨5,0⟩]) (op:=1) (a:=2) oy _) λw2 _=>?_;refine gC (kT (q:=q) (vv:=vv) (vn:=vn) (vc:=vc) (vt:=vt) (n:=n) (be:=be) (bC:=bC) (l:=L++[⟨5,0⟩]++[⟨1,2⟩]) (op:=7) (a:=0) oy _) λw3 _=>?_;refine gC (akG (q:=q) (vv:=vv) (vn:=vn) (vc:=vc) (vt:=vt) (n:=n) (be:=be) (bC:=bC) (l:=L++[⟨5,0⟩]++[⟨1,2⟩]++[⟨7,0⟩]) oy _) λw4 _=>?_;rw[show L++[⟨5,0⟩]++[⟨1,2⟩]++[⟨7,0⟩]++[⟨15,n⟩]=l++aoU u v c.lo n by rw[<- hL];simp[aoU,apR]];refine go ?_;exact gQ w4 trivial
def azr(hl:l.length<17000000)(hc:c.cells=[u,v]):FnM (.func 47) q vv vn vc vt n be bC l (aqA u v c.set c.other n) c v1 v2 []:=by
 intro vi;have hlen:[u,v].length=2:=rfl;rw[hc];refine gB 47 λB w0=>?_;refine gF aj v1 [u,v] λa1 c1 e1=>?_;subst e1;refine go ?_;intro b3;refine gP b3 ?_;refine go ?_;refine dL (λy:Nat×ah=>2 - y.1) (λy=>[(5,iV (y.1:Int))]) (λy=>ant q vv vn vc vt n be bC y.2 (l++noR u v c.set c.other n y.1)) (λ_=>[]) (λy=>y.1<=2) (0,vi) (bI _) (hk:=by
  rw[noR,jo];exact bM) (body:=?_)
 rintro⟨k,w⟩ hk;dsimp only at hk⊢;refine aK ?_ ?_<;>intro h1
 .have hk2:k<2:=by omega
  match k,hk2 with
  |0,_=>
   rw[show l++noR u v c.set c.other n 0=l by simp[noR]];refine go ?_;intro _ _ x hx;cases hx;refine gC (an9 (q:=q) (vv:=vv) (vn:=vn) (vc:=vc) (vt:=vt) (n:=n) (be:=be) (bC:=bC) (l:=l) (c:=u) (set:=c.set) oy w) λw1 _=>?_;refine go ?_;rw[show(1:Int) - ((0:Nat):Int)=((1:Nat):Int)from rfl];refine go ?_;intro _ _ y hy;cases hy;refine gC (an9 (q:=q) (vv:=vv) (vn:=vn) (vc:=vc) (vt:=vt) (n:=n) (be:=be) (bC:=bC) (l:=l++aa c.set u) (c:=v) (set:=c.other) oy w1) λw2 _=>?_;refine gC (kT (q:=q) (vv:=vv) (vn:=vn) (vc:=vc) (vt:=vt) (n:=n) (be:=be) (bC:=bC) (l:=l++aa c.set u++aa c.other v) (op:=5) (a:=0) oy _) λw3 _=>?_;refine gC (kT (q:=q) (vv:=vv) (vn:=vn) (vc:=vc) (vt:=vt) (n:=n) (be:=be) (bC:=bC) (l:=l++aa c.set u++aa c.other v++[⟨5,0⟩]) (op:=1) (a:=2) oy _) λw4 _=>?_;refine gC (kT (q:=q) (vv:=vv) (vn:=vn) (vc:=vc) (vt:=vt) (n:=n) (be:=be) (bC:=bC) (l:=l++aa c.set u++aa c.other v++[⟨5,0⟩]++[⟨1,2⟩]) (op:=7) (a:=0) oy _) λw5 _=>?_;refine gC (akG (q:=q) (vv:=vv) (vn:=vn) (vc:=vc) (vt:=vt) (n:=n) (be:=be) (bC:=bC) (l:=l++aa c.set u++aa c.other v++[⟨5,0⟩]++[⟨1,2⟩]++[⟨7,0⟩]) oy _) λw6 _=>?_;rw[show l++aa c.set u++aa c.other v++[⟨5,0⟩]++[⟨1,2⟩]++[⟨7,0⟩]++[⟨15,n⟩]=l++noR u v c.set c.other n (0+1)by simp[noR,agr]];refine go ?_;exact aW (0+1,w6) pC pC
  |1,_=>
   have yD:(l++noR u v c.set c.other n 1).length<18000000:=by simp[noR,agr,aa];omega
   generalize hL:l++noR u v c.set c.other n 1=L at yD;refine go ?_;intro _ _ x hx;cases hx;refine gC (an9 (q:=q) (vv:=vv) (vn:=vn) (vc:=vc) (vt:=vt) (n:=n) (be:=be) (bC:=bC) (l:=L) (c:=v) (set:=c.set) oy w) λw1 _=>?_;refine go ?_;rw[show(1:Int) - ((1:Nat):Int)=((0:Nat):Int)from rfl];refine go ?_;intro _ _ y hy;cases hy;refine gC (an9 (q:=q) (vv:=vv) (vn:=vn) (vc:=vc) (vt:=vt) (n:=n) (be:=be) (bC:=bC) (l:=L++aa c.set v) (c:=u) (set:=c.other) oy w1) λw2 _=>?_;refine gC (kT (q:=q) (vv:=vv) (vn:=vn) (vc:=vc) (vt:=vt) (n:=n) (be:=be) (bC:=bC) (l:=L++aa c.set v++aa c.other u) (op:=5) (a:=0) oy _) λw3 _=>?_;refine gC (kT (q:=q) (vv:=vv) (vn:=vn) (vc:=vc) (vt:=vt) (n:=n) (be:=be) (bC:=bC) (l:=L++aa c.set v++aa c.other u++[⟨5,0⟩]) (op:=1) (a:=2) oy _) λw4 _=>?_;refine gC (kT (q:=q) (vv:=vv) (vn:=vn) (vc:=vc) (vt:=vt) (n:=n) (be:=be) (bC:=bC) (l:=L++aa c.set v++aa c.other u++[⟨5,0⟩]++[⟨1,2⟩]) (op:=7) (a:=0) oy _) λw5 _=>?_;refine gC (akG (q:=q) (vv:=vv) (vn:=vn) (vc:=vc) (vt:=vt) (n:=n) (be:=be) (bC:=bC) (l:=L++aa c.set v++aa c.other u++[⟨5,0⟩]++[⟨1,2⟩]++[⟨7,0⟩]) oy _) λw6 _=>?_;rw[show L++aa c.set v++aa c.other u++[⟨5,0⟩]++[⟨1,2⟩]++[⟨7,0⟩]++[⟨15,n⟩]=l++noR u v c.set c.other n (1+1)by rw[<- hL];simp[noR,agr]];refine go ?_;exact aW (1+1,w6) pC pC
 have hke:k=2:=ov
 subst hke;rw[show l++noR u v c.set c.other n 2=l++aqA u v c.set c.other n by simp[aqA,noR]];exact iz
end
