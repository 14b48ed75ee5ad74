/-
  Part LibBR.
-/
import Derived.Test.YtpkieeggilkagaaGreatLibAR
set_option linter.all false
set_option maxRecDepth 10000
set_option maxHeartbeats 2000000
namespace Go.Proofs.YtpkieeggilkagaaGreat
open Go.Ideal Gph
theorem aeC(m:Nat):zeros [.slice none 0 0] m=List.replicate m (.slice none 0 0):=EK _ _
structure UZ where
 a:Option Addr
 n:Nat
 e:Int
theorem aeD{vg iP:Value}{g:List (List Int)}{ak:List Bool}(hll:∀l∈g,l.length<9223372036854775808):
 aV Tryz.prog (.func 26) [vg,iP] [] [] [ah (ax aa) vg g,ah lC iP ak] (λy:UZ=>.tuple ⟨[.slice y.a y.n y.n,.int .i64 y.e]⟩) (λ_=>[]) (λ_=>[])
  (λy=>(y.e=0↔gX g/\ak.length=g.length)/\(y.e=0->y.n=(eZ g ak g.length).2)/\(y.e≠0->y.n=0)):=by
 refine aC _ (aF 26) λB w0=>?_;refine aT (E:=lC) (v:=iP) (xs:=ak) (by simp) λa2 c2 e2=>?_;subst e2;refine go ?_;intro b12;refine aW (eB (b:=b12)) (h:=?_);refine fD (ah (ax lC) (zl b12 1) [ak]) (λw hw=>IR (v:=.slice a2 ak.length c2) (hw _ (by simp)) (hw _ (by simp))) ?_;refine aj (UU (g:=g) (sets:=[ak]) hll (by simp)) (next:=λr hr=>?_);refine go ?_;refine ay rfl (λh1=>?_) (λh1=>?_)
 ·refine go ?_;exact ae ⟨none,0,r⟩ (hv:=rfl) (hp:=⟨⟨λh=>absurd h h1,λh=>absurd (hr.2 ⟨h.1,by simpa using h.2⟩) h1⟩,λh=>absurd h h1,λ_=>rfl⟩)
 have hr0:r=0:=gM.1 h1;obtain⟨hG,hin⟩:=hr.1 hr0;have hin:ak.length=g.length:=by simpa using hin
 have hlen:=hG.len;have hpk:=Jd g ak g.length;refine go ?_;refine aj (UY (g:=g) (ak:=ak) hG hll hin) (next:=λbp _=>?_);refine go ?_;refine Am (eZ g ak g.length).2 ⟨by omega,by omega,by omega⟩ λbl=>?_;rw[aeC];refine acj aa (h:=?_);refine aW (yU (b:=bp) (f:=0) (c:=g.length) (xs:=(eZ g ak g.length).1)) (h:=?_);rw[hpk.1];refine go ?_;refine aR (λx=>g.length - x.1) (λx:Nat×List (List Int)=>[(27,.int .i64 (x.1:Int))]) (λx=>[IV aa bl x.2]) (λ_=>[])
  (λx=>x.1<=g.length/\x.2.length=(eZ g ak g.length).2/\∀xs∈x.2,xs.length<=x.1) (0,List.replicate (eZ g ak g.length).2 []) ⟨bJ _,by simp,λxs hx=>by rw[(List.mem_replicate.1 hx).2];simp⟩ (body:=?_)
 rintro⟨k,xss⟩ ⟨hk,hxl,hxs⟩;dsimp only at hk hxl hxs⊢;refine go ?_;refine ay rfl (λh2=>?_) (λh2=>?_)
 ·have hkp:k<(eZ g ak g.length).1.length:=by omega
  refine go ?_;intro _ _ p hp;have hpr:=hpk.2.2 p (aP hp);refine go ?_;refine ay rfl (λh3=>?_) (λh3=>?_)
  ·obtain⟨p,rfl⟩:=dZ hpr.1;have hp1:((p:Int) - 1).toNat<xss.length:=by omega
   refine go ?_;refine acg aa (b:=bl) (xss:=xss) (bN hp1) (h:=λvs v hvl hv=>?_);have hvk:=hxs _ (uY hp1);refine qG (o:=0+((p:Int) - 1).toNat*1) (cs:=vs) v (by rw[fC,wy];exact hv) ?_;refine go ?_;intro b43;refine eG (xs:=xss[((p:Int) - 1).toNat]) aa (k:Int) () (by omega) (next:=λad=>?_);refine go ?_;refine pg (o:=0+((p:Int) - 1).toNat*1) (cs:=vs) (v:=.slice ad (xss[((p:Int) - 1).toNat].length+1) (xss[((p:Int) - 1).toNat].length+1)) (cs':=vs.set ((p:Int) - 1).toNat (.slice ad (xss[((p:Int) - 1).toNat].length+1) (xss[((p:Int) - 1).toNat].length+1))) (by rw[fC,wy]) (by omega) ?_;refine aci aa (b:=bl) (xss:=xss) (vs:=vs) (k:=((p:Int) - 1).toNat) (xs:=xss[((p:Int) - 1).toNat]++[(k:Int)]) hvl hp1 (h:=?_);refine go ?_;refine aD (k+1,xss.set ((p:Int) - 1).toNat (xss[((p:Int) - 1).toNat]++[(k:Int)])) (by show g.length - (k+1)<g.length - k;omega) ⟨by show k+1<=_;omega,by show(xss.set _ _).length=_;rw[um];exact hxl,λxs hx=>?_⟩;rcases List.mem_or_eq_of_mem_set hx with hx|rfl
   ·have:=hxs xs hx;show _<=k+1;omega
   ·show _<=k+1;rw[gU,uh];omega
  ·refine go ?_;exact aD (k+1,xss) (by show g.length - (k+1)<g.length - k;omega) ⟨by show k+1<=_;omega,hxl,λxs hx=>by have:=hxs xs hx;show _<=k+1;omega⟩
 refine go ?_;exact ae ⟨some ⟨bl,0,some 0⟩,(eZ g ak g.length).2,0⟩ (hv:=rfl) (hp:=⟨⟨λ_=>⟨hG,hin⟩,λ_=>rfl⟩,λ_=>rfl,λh=>absurd rfl h⟩)
theorem aeF{vg iP:Value}{g:List (List Int)}{ak:List Bool}(hll:∀l∈g,l.length<9223372036854775808):
 aV Tryz.prog (.func 27) [vg,iP] [] [] [ah (ax aa) vg g,ah lC iP ak] (λy:Bool×Int=>.tuple ⟨[.bool y.1,.int .i64 y.2]⟩) (λ_=>[]) (λ_=>[])
  (λy=>(y.2=0↔gX g/\ak.length=g.length)/\(y.2=0->y.1=AA g ak)/\(y.2≠0->y.1=false)):=by
 refine aC _ (aF 27) λB w0=>?_;refine aT (E:=lC) (v:=iP) (xs:=ak) (by simp) λa2 c2 e2=>?_;subst e2;refine go ?_;intro b12;refine aW (eB (b:=b12)) (h:=?_);refine fD (ah (ax lC) (zl b12 1) [ak]) (λw hw=>IR (v:=.slice a2 ak.length c2) (hw _ (by simp)) (hw _ (by simp))) ?_;refine aj (UU (g:=g) (sets:=[ak]) hll (by simp)) (next:=λr hr=>?_);refine go ?_;refine ay rfl (λh1=>?_) (λh1=>?_)
 ·refine go ?_;exact ae (false,r) (hv:=rfl) (hp:=⟨⟨λh=>absurd h h1,λh=>absurd (hr.2 ⟨h.1,by simpa using h.2⟩) h1⟩,λh=>absurd h h1,λ_=>rfl⟩)
 have hr0:r=0:=gM.1 h1;obtain⟨hG,hin⟩:=hr.1 hr0;have hin:ak.length=g.length:=by simpa using hin
 have hlen:=hG.len;refine go ?_;refine aR (λk=>g.length - k) (λk:Nat=>[(23,.int .i64 (k:Int)),(6,.int .i64 (tJ ak k:Int))]) (λ_=>[]) (λ_=>[]) (λk=>k<=g.length/\Fj g ak k) 0 ⟨bJ _,λi hi=>by omega⟩ (body:=?_);rintro k ⟨hk,hdg⟩;have hsz:=Nj ak k;have hsucc:=adi ak k;refine go ?_;refine ay rfl (λh2=>?_) (λh2=>?_)
 ·refine go ?_;refine aU (ax aa) (xs:=g) (next:=λ_ _ l (vl:Value) hl=>?_);have hl1:=hll l (aP hl);have hgd:g.getD k []=l:=by rw[uo,hl];rfl
  refine go ?_;intro _ _ c hc;have hc':cO ak (k:Nat)=c:=by unfold cO;rw[ku,uo,hc];rfl
  rw[hc']at hsucc;refine go ?_;cases c with
  |false=>
   refine go ?_;refine aD (k+1) (by omega) ⟨by omega,λi hi hii=>?_⟩ (hl:=⟨rfl,by rw[hsucc];rfl,by repeat (first|exact trivial|refine⟨rfl,?_⟩)⟩);by_cases e:i=k
   ·subst e;rw[hc']at hii;cases hii
   ·exact hdg i (by omega) hii
  |true=>
   refine go ?_;refine aR (λj=>l.length - j) (λj:Nat=>[(37,.int .i64 (j:Int)),(9,.int .i64 (pz ak (l.take j):Int))]) (λ_=>[]) (λ_=>[]) (λj=>j<=l.length) 0 (bJ _) (body:=?_);intro j hj;refine go ?_;refine ay rfl (λh3=>?_) (λh3=>?_)
   ·refine go ?_;intro _ _ n hn;have hnr:=hG.ok k l hl j n hn;obtain⟨n,rfl⟩:=dZ hnr.1;refine go ?_;intro _ _ d hd;have hd':cO ak (n:Nat)=d:=by unfold cO;rw[ku,uo,hd];rfl
    have hstep:pz ak (l.take (j+1))=pz ak (l.take j)+if d then 1 else 0:=by
     rw[pz,take_one hn,uk,gU,<- pz];congr 1;simp only[zD,Kv,hd'];split<;>rfl
    have hdl:pz ak (l.take j)<=j:=by
     have:=DK (cO ak) (l.take j);rw[gL]at this;unfold pz;omega
    refine go ?_;cases d with
    |false=>
     refine go ?_;exact aD (j+1) (by omega) (by omega) (hl:=⟨rfl,by rw[hstep];rfl,by repeat (first|exact trivial|refine⟨rfl,?_⟩)⟩)
    |true=>
     refine go ?_;exact aD (j+1) (by omega) (by omega) (hl:=⟨rfl,by rw[hstep];rfl,by repeat (first|exact trivial|refine⟨rfl,?_⟩)⟩)
   have hjl:j=l.length:=by omega
   subst hjl;rw[bC];refine go ?_;refine ay rfl (λh4=>?_) (λh4=>?_)
   ·refine go ?_;refine ae (false,0) (hv:=rfl) (hp:=⟨⟨λ_=>⟨hG,hin⟩,λ_=>rfl⟩,λ_=>?_,λh=>absurd rfl h⟩);refine(Nl λh=>h4 ?_).symm;have:=h.1 k (by omega) hc';rw[hgd]at this;rw[this];rfl
   refine go ?_;refine aD (k+1) (by omega) ⟨by omega,λi hi hii=>?_⟩ (hl:=⟨rfl,by rw[hsucc];rfl,by repeat (first|exact trivial|refine⟨rfl,?_⟩)⟩);by_cases e:i=k
   ·subst e;rw[hgd];omega
   ·exact hdg i (by omega) hii
 have hkl:k=g.length:=by omega
 subst hkl;refine go ?_;refine aj (UY (g:=g) (ak:=ak) hG hll hin) (next:=λbp _=>?_);refine go ?_;refine gG (λh5=>?_) (λh5=>?_)
 ·refine go ?_;refine ae (false,0) (hv:=rfl) (hp:=⟨⟨λ_=>⟨hG,hin⟩,λ_=>rfl⟩,λ_=>?_,λh=>absurd rfl h⟩);exact(Nl λh=>by have:=h.2.1;omega).symm
 refine go ?_;refine ae (decide (((eZ g ak g.length).2:Int)=1),0) (hv:=rfl) (hp:=⟨⟨λ_=>⟨hG,hin⟩,λ_=>rfl⟩,λ_=>?_,λh=>absurd rfl h⟩);rw[yx,yB,Nk];exact⟨λh=>⟨hdg,by omega,by omega⟩,λh=>by have:=h.2.2;omega⟩
def kH(grid:List Int)(set:Nat)(cells:List Int):List Bool:=cells.foldl (λm c=>m.set c.toNat (set.testBit (sy grid c))) (List.replicate grid.length false)
theorem JC(grid:List Int)(set:Nat)(cells:List Int):(kH grid set cells).length=grid.length:=by
 have:∀(cells:List Int) (m:List Bool),(cells.foldl (λm c=>m.set c.toNat (set.testBit (sy grid c))) m).length=m.length:=by
  intro cells;induction cells with
  |nil=>intro m;rfl
  |cons c cells ih=>intro m;rw[qZ,ih,um]
 rw[kH,this,PK]
theorem U0{grid:List Int}{set:Nat}{cells:List Int}{k:Nat}{c:Int}(h:cells[k]? =some c):kH grid set (cells.take (k+1))=(kH grid set (cells.take k)).set c.toNat (set.testBit (sy grid c)):=by
 rw[kH,take_one h,BF];rfl
noncomputable def qd(aN:List (List Int))(mk:List Bool)(loop:Bool):Bool:=if loop=true/\(eZ aN mk aN.length).2≠0 then AA aN mk else decide ((eZ aN mk aN.length).2<=1)
theorem aeG{b6 b8 b11 bm:Nat}{vg:Value}{grid:List Int}{set:Nat}{m:List Bool}{c:Nat}(hg:oN grid)(hc:c<grid.length)(hm:m.length=grid.length)(hs:set<9223372036854775808):
 aV Tryz.prog (.func 132) [.int .i64 (c:Int)] [ptr' b8,ptr' b6,ptr' b11] [pt bm (.cells (m.map .bool))] [bZ b8 0 [.int .i64 (set:Int)],bZ b6 0 [vg],bZ b11 0 [zl bm grid.length],ah aa vg grid]
  (λ_:Unit=>.tuple ⟨[]⟩) (λ_=>[pt bm (.cells ((m.set c (set.testBit (sy grid c))).map .bool))]) (λ_=>[]) (λ_=>True):=by
 refine aC _ (aF 132) λB w0=>?_;refine go ?_;intro _ _ x hx;have kw:=hg.dP x (aP hx);obtain⟨x,rfl⟩:=dZ kw.1;refine aj (CY (set:=set) (dP:=x) hs (by omega)) (next:=λ_ _=>?_);refine go ?_;refine pg (o:=0+c*1) (cs:=m.map .bool) (v:=.bool (set.testBit x)) (cs':=(m.set c (set.testBit (sy grid c))).map .bool) (by rw[DT,tO hx];simp) (by simp;omega) ?_;refine go ?_;exact ae () (hv:=rfl) (hp:=trivial)
theorem U4{vn vg vc:Value}{aN:List (List Int)}{grid cells:List Int}{set:Nat}{loop:Bool}(hG:gX aN)(hll:∀l∈aN,l.length<9223372036854775808)(hgl:grid.length=aN.length)(hg:oN grid)(hc:oq grid cells)(hs:set<9223372036854775808):
 bV Tryz.prog 86 [vn,vg,vc,.int .i64 (set:Int),.bool loop] [ah (ax aa) vn aN,ah aa vg grid,ah aa vc cells] (.bool (qd aN (kH grid set cells) loop)):=by
 refine aC _ (aF 86) λB w0=>?_;have hgn:=hG.len;have hcl:=hc.len;refine aT (E:=aa) (v:=vg) (xs:=grid) (by simp) λa2 c2 e2=>?_;subst e2;refine go ?_;intro b6 b8;refine aW (eB (b:=b6)) (h:=?_);refine aW (eB (b:=b8)) (h:=?_);refine go ?_;refine Am grid.length ⟨by omega,by omega,by omega⟩ λbm=>?_;rw[JB];refine go ?_;intro b11;refine go ?_;refine aW (eB (b:=b11)) (h:=?_);refine go ?_;refine aR (λk=>cells.length - k) (λk:Nat=>[(25,.int .i64 (k:Int))]) (λk=>[pt bm (.cells ((kH grid set (cells.take k)).map .bool))]) (λ_=>[]) (λk=>k<=cells.length) 0 (bJ _)
  (hk:=by repeat (first|exact aJ.nil|(apply aJ.cons;(focus (repeat (first|exact aA.here|apply aA.there)))))) (body:=?_)
 intro k hk;have hml:=JC grid set (cells.take k);refine go ?_;refine ay rfl (λh1=>?_) (λh1=>?_)
 ·refine go ?_;intro _ _ c hck;have hcc:=hc.cell c (aP hck);have hmt:=U0 (grid:=grid) (set:=set) hck;obtain⟨c,rfl⟩:=dZ hcc.1;rw[ku]at hmt;refine go ?_;refine aj (aeG (b6:=b6) (b8:=b8) (b11:=b11) (bm:=bm) (set:=set) (m:=kH grid set (cells.take k)) (c:=c) hg (by omega) hml hs) (next:=λ_ _=>?_);rw[<- hmt];refine go ?_;exact aD (k+1) (by omega) (by omega)
 have hkl:k=cells.length:=by omega
 subst hkl;rw[bC]at hml⊢;refine aW (EP (b:=bm) (f:=0) (c:=grid.length) (xs:=kH grid set cells)) (h:=?_);rw[hml];refine go ?_;refine aj (aeD (g:=aN) (ak:=kH grid set cells) hll) (next:=λy hy=>?_);obtain⟨a,n,e⟩:=y;have he:e=0:=hy.1.2 ⟨hG,by rw[hml,hgl]⟩;subst he;have hn:=hy.2.1 rfl;dsimp only at hn;cases loop with
 |false=>
  refine go ?_;refine ae () (hv:=?_) (hp:=trivial);rw[qd,if_neg (by simp),<- hn];show Value.bool (decide ((n:Int)<=1))=_;rw[show decide ((n:Int)<=1)=decide (n<=1)from l6.2 (by omega)]
 |true=>
  refine go ?_;refine ay rfl (λh2=>?_) (λh2=>?_)
  ·have h2:(n:Int)=0:=h2;refine go ?_;refine ae () (hv:=?_) (hp:=trivial);rw[qd,if_neg (by rw[<- hn];exact λh=>h.2 (by omega)),<- hn];show Value.bool (decide ((n:Int)<=1))=_;rw[show decide ((n:Int)<=1)=decide (n<=1)from l6.2 (by omega)]
  have h2:¬(n:Int)=0:=h2;refine go ?_;refine aj (aeF (g:=aN) (ak:=kH grid set cells) hll) (next:=λz hz=>?_);obtain⟨r,e⟩:=z;have he:e=0:=hz.1.2 ⟨hG,by rw[hml,hgl]⟩;subst he;have hr:=hz.2.1 rfl;dsimp only at hr;subst hr;refine go ?_;refine ae () (hv:=?_) (hp:=trivial);rw[qd,if_pos ⟨rfl,by rw[<- hn];omega⟩];rfl
structure aeH(c:Fq):Prop where
 cells:c.cells.length<9223372036854775808
 runs:c.runs.length<9223372036854775808
theorem aeI{b4:Nat}{sm x:Int}:JA Tryz.prog (.func 100) [] [ptr' b4] (.int .i64 x) [bZ b4 0 [.int .i64 sm]] (decide (x<0\/sm<=x)):=by
 refine aC _ (aF 100) λB w0=>?_;refine go ?_;refine gG (λh1=>?_) (λh1=>?_)
 ·refine go ?_;refine ae () (hv:=?_) (hp:=trivial);rw[show decide (x<0\/sm<=x)=decide (sm<=x)from l6.2 ⟨λh=>h.elim (λh=>absurd h h1) id,.inr⟩];rfl
 refine go ?_;refine ae () (hv:=?_) (hp:=trivial);rw[dQ (.inl h1)];rfl
def Fin(cells symbols:Int)(grid:List Int):Prop:=(grid.length:Int)=cells/\∀s∈grid,0<=s/\s<symbols
theorem aeJ{vg:Value}{cells symbols:Int}{grid:List Int}(hl:grid.length<9223372036854775808):
 aV Tryz.prog (.func 40) [.int .i64 cells,.int .i64 symbols,vg] [] [] [ah aa vg grid] (λb:Bool=>.bool b) (λ_=>[]) (λ_=>[]) (λb=>(b=true↔Fin cells symbols grid)):=by
 refine aC _ (aF 40) λB w0=>?_;refine go ?_;intro b4;refine aW (eB (b:=b4)) (h:=?_);refine go ?_;refine gG (λh1=>?_) (λh1=>?_)
 ·refine go ?_;exact ae false (hv:=rfl) (hp:=⟨(λh=>by cases h),λh=>absurd h.1 h1⟩)
 refine go ?_;refine aj (UR (p:=λx=>decide (x<0\/symbols<=x)) hl (λx _=>aeI (b4:=b4) (sm:=symbols))) (next:=λ_ _=>?_);refine go ?_;refine ae (!grid.any λx=>decide (x<0\/symbols<=x)) (hv:=rfl) (hp:=?_);rw[List.not_any_eq_all_not];simp only[kg,Bz,decide_eq_false_iff_not,not_or,Int.not_lt,Int.not_le];exact⟨λh=>⟨h1,h⟩,λh=>h.2⟩
structure ajW(q:Nn):Prop where
 cells:1<=q.cells/\q.cells<=256
 symbols:1<=q.symbols/\q.symbols<=16
 ajX:(q.values.length:Int)=q.symbols
 vals:∀v∈q.values,0<=v/\v<=99
 xQ:(q.aN.length:Int)=q.cells
 ajY:gX q.aN
 many:q.cons.length<=4096
 fine:∀c∈q.cons,Np q.cells q.symbols c
structure ajZ(q:Nn):Prop where
 values:q.values.length<9223372036854775808
 aN:∀l∈q.aN,l.length<9223372036854775808
 cons:q.cons.length<9223372036854775808
 con:∀c∈q.cons,aeH c
theorem FC(grid:List Int)(set:Nat):∀(cells:List Int) (n:Nat),(rn grid set n cells).length<=cells.length+1
 |[],n=>by rw[rn];split<;>simp
 |c::cs,n=>by
  rw[rn];split
  ·have:=FC grid set cs (n+1);simp;omega
  ·split
   ·have:=FC grid set cs 0;simp;omega
   ·have:=FC grid set cs 0;simp;omega
structure aj1(q:Nn)(c:Fq)(grid:List Int):Prop where
 gr:oN grid
 ce:oq grid c.cells
 vs:AQ q.values grid
 st:0<=c.set/\c.set<65537
 ot:0<=c.other/\c.other<65537
abbrev U5(y:Bool×Int):Value:=.tuple ⟨[.bool y.1,.int .i64 y.2]⟩
theorem aeK(set dP:Nat):decide (((set&&&1<<<dP:Nat):Int)≠0)=set.testBit dP:=by
 rw[DD,ug];have h:set&&&2^dP=(set.testBit dP).toNat*2^dP:=by
  apply Nat.eq_of_testBit_eq;intro i;rw[Nat.testBit_and,Px];by_cases e:dP=i
  ·subst e;cases set.testBit dP<;>simp[Px]
  ·cases set.testBit dP<;>simp[Px,e]
 rw[h];have:0<2^dP:=Nat.two_pow_pos dP;cases set.testBit dP
 ·simp
 ·show decide ((((1:Nat)*2^dP:Nat):Int)≠0)=true;rw[ug];exact dQ (by omega)
theorem FD{set dP:Nat}(hs:set<9223372036854775808)(hb:dP<16):bV Tryz.prog 49 [.int .i64 (set:Int),.int .i64 (dP:Int)] [] (.bool (set.testBit dP)):=by
 refine aC _ (aF 49) λB w0=>?_;refine go ?_;refine gG (λh2=>?_) (λh2=>?_)
 ·omega
 have hsh:1<<<dP<=65536:=by
  rw[DD,ug];have:2^dP<=2^16:=Nat.pow_le_pow_right (by omega) (by omega);omega
 refine go ?_;refine Sk (IL (a:=1) (b:=dP) rfl rfl (by omega) (by omega)) ?_;refine Sk (Si (a:=set) (b:=1<<<dP) rfl rfl hs (by omega)) ?_;refine go ?_;refine ae () (hv:=?_) (hp:=trivial);rw[<- aeK];rfl
theorem U6{vg vc:Value}{grid cells:List Int}{set:Nat}(hg:oN grid)(hc:oq grid cells)(hs:set<9223372036854775808):
 aV Tryz.prog (.func 25) [vg,vc,.int .i64 (set:Int)] [] [] [ah aa vg grid,ah aa vc cells] (λb:Nat=>zl b grid.length) (λb=>[pt b (.cells ((kH grid set cells).map .bool))]) (λ_=>[]) (λ_=>True):=by
 refine aC _ (aF 25) λB w0=>?_;have hgl:=hg.len;have hcl:=hc.len;refine go ?_;refine Am grid.length ⟨by omega,by omega,by omega⟩ λbm=>?_;rw[JB];refine go ?_;refine aR (λk=>cells.length - k) (λk:Nat=>[(8,.int .i64 (k:Int))]) (λk=>[pt bm (.cells ((kH grid set (cells.take k)).map .bool))]) (λ_=>[]) (λk=>k<=cells.length) 0 (bJ _)
  (hk:=by repeat (first|exact aJ.nil|(apply aJ.cons;(focus (repeat (first|exact aA.here|apply aA.there)))))) (body:=?_)
 intro k hk;have hml:=JC grid set (cells.take k);refine go ?_;refine ay rfl (λh1=>?_) (λh1=>?_)
 ·refine go ?_;intro _ _ c hck;have hcc:=hc.cell c (aP hck);have hmt:=U0 (grid:=grid) (set:=set) hck;obtain⟨c,rfl⟩:=dZ hcc.1;rw[ku]at hmt;refine go ?_;intro _ _ c' aeL;cases hck.symm.trans aeL;refine go ?_;intro _ _ x hx;have kw:=hg.dP x (aP hx);obtain⟨x,rfl⟩:=dZ kw.1;rw[tO hx]at hmt;refine aj (FD (set:=set) (dP:=x) hs (by omega)) (next:=λ_ _=>?_);refine go ?_;refine pg (o:=0+c*1) (cs:=(kH grid set (cells.take k)).map .bool) (v:=.bool (set.testBit x)) (cs':=(kH grid set (cells.take (k+1))).map .bool) (by rw[hmt,DT];simp) (by simp;omega) ?_;refine go ?_;exact aD (k+1) (by omega) (by omega)
 have hkl:k=cells.length:=by omega
 subst hkl;rw[bC];refine go ?_;exact ae bm (hv:=rfl) (hp:=trivial)
