/-
  Graphs: components, rings.
-/
import Derived.Test.YtfakljdleblkoaaGreatLibAM
set_option linter.all false
set_option maxRecDepth 10000
set_option maxHeartbeats 2000000
namespace Go.Proofs.YtfakljdleblkoaaGreat
open Go.Ideal Gph
theorem ahC(m:Nat):zeros [.slice none 0 0] m=List.replicate m (.slice none 0 0):=Fv _ _
structure ahD where
 a:Option Addr
 n:Nat
 e:Int
theorem ahE{vg nD:Value}{g:List (List Int)}{aC:List Bool}(hll:∀l∈g,l.length<9223372036854775808):
 aQ Tryz.prog (.func 156) [vg,nD] [] [] [ah (aB ae) vg g,ah oH nD aC] (λy:ahD=>.tuple ⟨[.slice y.a y.n y.n,.int .i64 y.e]⟩) (λ_=>[]) (λ_=>[])
  (λy=>(y.e=0↔iX g/\aC.length=g.length)/\(y.e=0->y.n=(eF g aC g.length).2)/\(y.e≠0->y.n=0)):=by
 refine aK _ (aM 156) λB w0=>?_;refine bY (E:=oH) (v:=nD) (xs:=aC) (by simp) λa2 c2 e2=>?_;subst e2;refine go ?_;intro b12;refine aZ (dH (b:=b12)) (h:=?_);refine fO (ah (aB oH) (DK b12 1) [aC]) (λw hw=>NV (v:=.slice a2 aC.length c2) (hw _ (by simp)) (hw _ (by simp))) ?_;refine ak (Xk (g:=g) (sets:=[aC]) hll (by simp)) (next:=λr hr=>?_);refine go ?_;refine aJ rfl (λh1=>?_) (λh1=>?_)
 ·refine go ?_;exact aj ⟨none,0,r⟩ (hv:=rfl) (hp:=⟨⟨λh=>absurd h h1,λh=>absurd (hr.2 ⟨h.1,by simpa using h.2⟩) h1⟩,λh=>absurd h h1,λ_=>rfl⟩)
 have hr0:r=0:=jo.1 h1;obtain⟨hG,hin⟩:=hr.1 hr0;have hin:aC.length=g.length:=by simpa using hin
 have hlen:=hG.len;have hpk:=JU g aC g.length;refine go ?_;refine ak (Xo (g:=g) (aC:=aC) hG hll hin) (next:=λbp _=>?_);refine go ?_;refine xN (eF g aC g.length).2 ⟨by omega,by omega,by omega⟩ λbl=>?_;rw[ahC];refine aeH ae (h:=?_);refine aZ (uX (b:=bp) (f:=0) (c:=g.length) (xs:=(eF g aC g.length).1)) (h:=?_);rw[hpk.1];refine go ?_;refine bQ (λx=>g.length - x.1) (λx:Nat×List (List Int)=>[(27,.int .i64 (x.1:Int))]) (λx=>[Jt ae bl x.2]) (λ_=>[])
  (λx=>x.1<=g.length/\x.2.length=(eF g aC g.length).2/\∀xs∈x.2,xs.length<=x.1) (0,List.replicate (eF g aC g.length).2 []) ⟨dK _,by simp,λxs hx=>by rw[(List.mem_replicate.1 hx).2];simp⟩ (body:=?_)
 rintro⟨k,xss⟩ ⟨hk,hxl,hxs⟩;dsimp only at hk hxl hxs⊢;refine go ?_;refine aJ rfl (λh2=>?_) (λh2=>?_)
 ·have hkp:k<(eF g aC g.length).1.length:=by omega
  refine go ?_;intro _ _ p hp;have hpr:=hpk.2.2 p (aR hp);refine go ?_;refine aJ rfl (λh3=>?_) (λh3=>?_)
  ·obtain⟨p,rfl⟩:=eO hpr.1;have hp1:((p:Int) - 1).toNat<xss.length:=by omega
   refine go ?_;refine aeE ae (b:=bl) (xss:=xss) (bC hp1) (h:=λvs v hvl hv=>?_);have hvk:=hxs _ (uC hp1);refine pF (o:=0+((p:Int) - 1).toNat*1) (cs:=vs) v (by rw[fw,pV];exact hv) ?_;refine go ?_;intro b43;refine jO (xs:=xss[((p:Int) - 1).toNat]) ae (k:Int) () (by omega) (next:=λad=>?_);refine go ?_;refine mD (o:=0+((p:Int) - 1).toNat*1) (cs:=vs) (v:=.slice ad (xss[((p:Int) - 1).toNat].length+1) (xss[((p:Int) - 1).toNat].length+1)) (cs':=vs.set ((p:Int) - 1).toNat (.slice ad (xss[((p:Int) - 1).toNat].length+1) (xss[((p:Int) - 1).toNat].length+1))) (by rw[fw,pV]) (by omega) ?_;refine aeG ae (b:=bl) (xss:=xss) (vs:=vs) (k:=((p:Int) - 1).toNat) (xs:=xss[((p:Int) - 1).toNat]++[(k:Int)]) hvl hp1 (h:=?_);refine go ?_;refine bi (k+1,xss.set ((p:Int) - 1).toNat (xss[((p:Int) - 1).toNat]++[(k:Int)])) (by show g.length - (k+1)<g.length - k;omega) ⟨by show k+1<=_;omega,by show(xss.set _ _).length=_;rw[nM];exact hxl,λxs hx=>?_⟩;rcases List.mem_or_eq_of_mem_set hx with hx|rfl
   ·have:=hxs xs hx;show _<=k+1;omega
   ·show _<=k+1;rw[gP,yT];omega
  ·refine go ?_;exact bi (k+1,xss) (by show g.length - (k+1)<g.length - k;omega) ⟨by show k+1<=_;omega,hxl,λxs hx=>by have:=hxs xs hx;show _<=k+1;omega⟩
 refine go ?_;exact aj ⟨some ⟨bl,0,some 0⟩,(eF g aC g.length).2,0⟩ (hv:=rfl) (hp:=⟨⟨λ_=>⟨hG,hin⟩,λ_=>rfl⟩,λ_=>rfl,λh=>absurd rfl h⟩)
theorem ahG{vg nD:Value}{g:List (List Int)}{aC:List Bool}(hll:∀l∈g,l.length<9223372036854775808):
 aQ Tryz.prog (.func 157) [vg,nD] [] [] [ah (aB ae) vg g,ah oH nD aC] (λy:Bool×Int=>.tuple ⟨[.bool y.1,.int .i64 y.2]⟩) (λ_=>[]) (λ_=>[])
  (λy=>(y.2=0↔iX g/\aC.length=g.length)/\(y.2=0->y.1=Bp g aC)/\(y.2≠0->y.1=false)):=by
 refine aK _ (aM 157) λB w0=>?_;refine bY (E:=oH) (v:=nD) (xs:=aC) (by simp) λa2 c2 e2=>?_;subst e2;refine go ?_;intro b12;refine aZ (dH (b:=b12)) (h:=?_);refine fO (ah (aB oH) (DK b12 1) [aC]) (λw hw=>NV (v:=.slice a2 aC.length c2) (hw _ (by simp)) (hw _ (by simp))) ?_;refine ak (Xk (g:=g) (sets:=[aC]) hll (by simp)) (next:=λr hr=>?_);refine go ?_;refine aJ rfl (λh1=>?_) (λh1=>?_)
 ·refine go ?_;exact aj (false,r) (hv:=rfl) (hp:=⟨⟨λh=>absurd h h1,λh=>absurd (hr.2 ⟨h.1,by simpa using h.2⟩) h1⟩,λh=>absurd h h1,λ_=>rfl⟩)
 have hr0:r=0:=jo.1 h1;obtain⟨hG,hin⟩:=hr.1 hr0;have hin:aC.length=g.length:=by simpa using hin
 have hlen:=hG.len;refine go ?_;refine bQ (λk=>g.length - k) (λk:Nat=>[(23,.int .i64 (k:Int)),(6,.int .i64 (si aC k:Int))]) (λ_=>[]) (λ_=>[]) (λk=>k<=g.length/\xX g aC k) 0 ⟨dK _,λi hi=>by omega⟩ (body:=?_);rintro k ⟨hk,hdg⟩;have hsz:=afX aC k;have hsucc:=afW aC k;refine go ?_;refine aJ rfl (λh2=>?_) (λh2=>?_)
 ·refine go ?_;refine bZ (aB ae) (xs:=g) (next:=λ_ _ l (vl:Value) hl=>?_);have hl1:=hll l (aR hl);have hgd:g.getD k []=l:=by rw[Am,hl];rfl
  refine go ?_;intro _ _ c hc;have hc':cz aC (k:Nat)=c:=by unfold cz;rw[eX,Am,hc];rfl
  rw[hc']at hsucc;refine go ?_;cases c with
  |false=>
   refine go ?_;refine bi (k+1) (by omega) ⟨by omega,λi hi hii=>?_⟩ (hl:=⟨rfl,by rw[hsucc];rfl,by repeat (first|exact trivial|refine⟨rfl,?_⟩)⟩);by_cases e:i=k
   ·subst e;rw[hc']at hii;cases hii
   ·exact hdg i (by omega) hii
  |true=>
   refine go ?_;refine bQ (λj=>l.length - j) (λj:Nat=>[(37,.int .i64 (j:Int)),(9,.int .i64 (xW aC (l.take j):Int))]) (λ_=>[]) (λ_=>[]) (λj=>j<=l.length) 0 (dK _) (body:=?_);intro j hj;refine go ?_;refine aJ rfl (λh3=>?_) (λh3=>?_)
   ·refine go ?_;intro _ _ n hn;have hnr:=hG.ok k l hl j n hn;obtain⟨n,rfl⟩:=eO hnr.1;refine go ?_;intro _ _ d hd;have hd':cz aC (n:Nat)=d:=by unfold cz;rw[eX,Am,hd];rfl
    have hstep:xW aC (l.take (j+1))=xW aC (l.take j)+if d then 1 else 0:=by
     rw[xW,take_one hn,Al,gP,<- xW];congr 1;simp only[En,List.filter_nil,hd'];split<;>rfl
    have hdl:xW aC (l.take j)<=j:=by
     have:=Rz (cz aC) (l.take j);rw[iL]at this;unfold xW;omega
    refine go ?_;cases d with
    |false=>
     refine go ?_;exact bi (j+1) (by omega) (by omega) (hl:=⟨rfl,by rw[hstep];rfl,by repeat (first|exact trivial|refine⟨rfl,?_⟩)⟩)
    |true=>
     refine go ?_;exact bi (j+1) (by omega) (by omega) (hl:=⟨rfl,by rw[hstep];rfl,by repeat (first|exact trivial|refine⟨rfl,?_⟩)⟩)
   have hjl:j=l.length:=by omega
   subst hjl;rw[eH];refine go ?_;refine aJ rfl (λh4=>?_) (λh4=>?_)
   ·refine go ?_;refine aj (false,0) (hv:=rfl) (hp:=⟨⟨λ_=>⟨hG,hin⟩,λ_=>rfl⟩,λ_=>?_,λh=>absurd rfl h⟩);refine(VQ λh=>h4 ?_).symm;have:=h.1 k (by omega) hc';rw[hgd]at this;rw[this];rfl
   refine go ?_;refine bi (k+1) (by omega) ⟨by omega,λi hi hii=>?_⟩ (hl:=⟨rfl,by rw[hsucc];rfl,by repeat (first|exact trivial|refine⟨rfl,?_⟩)⟩);by_cases e:i=k
   ·subst e;rw[hgd];omega
   ·exact hdg i (by omega) hii
 have hkl:k=g.length:=by omega
 subst hkl;refine go ?_;refine ak (Xo (g:=g) (aC:=aC) hG hll hin) (next:=λbp _=>?_);refine go ?_;refine gG (λh5=>?_) (λh5=>?_)
 ·refine go ?_;refine aj (false,0) (hv:=rfl) (hp:=⟨⟨λ_=>⟨hG,hin⟩,λ_=>rfl⟩,λ_=>?_,λh=>absurd rfl h⟩);exact(VQ λh=>by have:=h.2.1;omega).symm
 refine go ?_;refine aj (decide (((eF g aC g.length).2:Int)=1),0) (hv:=rfl) (hp:=⟨⟨λ_=>⟨hG,hin⟩,λ_=>rfl⟩,λ_=>?_,λh=>absurd rfl h⟩);rw[sO,kL,JV];exact⟨λh=>⟨hdg,by omega,by omega⟩,λh=>by have:=h.2.2;omega⟩
def lI(grid:List Int)(set:Nat)(cells:List Int):List Bool:=cells.foldl (λm c=>m.set c.toNat (set.testBit (sy grid c))) (List.replicate grid.length false)
theorem Xp(grid:List Int)(set:Nat)(cells:List Int):(lI grid set cells).length=grid.length:=by
 have:∀(cells:List Int) (m:List Bool),(cells.foldl (λm c=>m.set c.toNat (set.testBit (sy grid c))) m).length=m.length:=by
  intro cells;induction cells with
  |nil=>intro m;rfl
  |cons c cells ih=>intro m;rw[sN,ih,nM]
 rw[lI,this,RJ]
theorem ahH{grid:List Int}{set:Nat}{cells:List Int}{k:Nat}{c:Int}(h:cells[k]? =some c):lI grid set (cells.take (k+1))=(lI grid set (cells.take k)).set c.toNat (set.testBit (sy grid c)):=by
 rw[lI,take_one h,Aq];rfl
noncomputable def vH(aA:List (List Int))(mk:List Bool)(loop:Bool):Bool:=if loop=true/\(eF aA mk aA.length).2≠0 then Bp aA mk else decide ((eF aA mk aA.length).2<=1)
theorem ahI{b6 b8 b11 bm:Nat}{vg:Value}{grid:List Int}{set:Nat}{m:List Bool}{c:Nat}(hg:zT grid)(hc:c<grid.length)(hm:m.length=grid.length)(hs:set<9223372036854775808):
 aQ Tryz.prog (.func 155) [.int .i64 (c:Int)] [ptr' b8,ptr' b6,ptr' b11] [pt bm (.cells (m.map .bool))] [bz b8 0 [.int .i64 (set:Int)],bz b6 0 [vg],bz b11 0 [DK bm grid.length],ah ae vg grid]
  (λ_:Unit=>.tuple ⟨[]⟩) (λ_=>[pt bm (.cells ((m.set c (set.testBit (sy grid c))).map .bool))]) (λ_=>[]) (λ_=>True):=by
 refine aK _ (aM 155) λB w0=>?_;refine go ?_;intro _ _ x hx;have rV:=hg.iJ x (aR hx);obtain⟨x,rfl⟩:=eO rV.1;refine ak (DI (set:=set) (iJ:=x) hs (by omega)) (next:=λ_ _=>?_);refine go ?_;refine mD (o:=0+c*1) (cs:=m.map .bool) (v:=.bool (set.testBit x)) (cs':=(m.set c (set.testBit (sy grid c))).map .bool) (by rw[Ao,DJ hx];simp) (by simp;omega) ?_;refine go ?_;exact aj () (hv:=rfl) (hp:=trivial)
theorem Xq{vn vg vc:Value}{aA:List (List Int)}{grid cells:List Int}{set:Nat}{loop:Bool}(hG:iX aA)(hll:∀l∈aA,l.length<9223372036854775808)(hgl:grid.length=aA.length)(hg:zT grid)(hc:zU grid cells)(hs:set<9223372036854775808):
 eG Tryz.prog 113 [vn,vg,vc,.int .i64 (set:Int),.bool loop] [ah (aB ae) vn aA,ah ae vg grid,ah ae vc cells] (.bool (vH aA (lI grid set cells) loop)):=by
 refine aK _ (aM 113) λB w0=>?_;have hgn:=hG.len;have hcl:=hc.len;refine bY (E:=ae) (v:=vg) (xs:=grid) (by simp) λa2 c2 e2=>?_;subst e2;refine go ?_;intro b6 b8;refine aZ (dH (b:=b6)) (h:=?_);refine aZ (dH (b:=b8)) (h:=?_);refine go ?_;refine xN grid.length ⟨by omega,by omega,by omega⟩ λbm=>?_;rw[Xl];refine go ?_;intro b11;refine go ?_;refine aZ (dH (b:=b11)) (h:=?_);refine go ?_;refine bQ (λk=>cells.length - k) (λk:Nat=>[(25,.int .i64 (k:Int))]) (λk=>[pt bm (.cells ((lI grid set (cells.take k)).map .bool))]) (λ_=>[]) (λk=>k<=cells.length) 0 (dK _)
  (hk:=by repeat (first|exact aO.nil|(apply aO.cons;(focus (repeat (first|exact az.here|apply az.there)))))) (body:=?_)
 intro k hk;have hml:=Xp grid set (cells.take k);refine go ?_;refine aJ rfl (λh1=>?_) (λh1=>?_)
 ·refine go ?_;intro _ _ c hck;have hcc:=hc.cell c (aR hck);have hmt:=ahH (grid:=grid) (set:=set) hck;obtain⟨c,rfl⟩:=eO hcc.1;rw[eX]at hmt;refine go ?_;refine ak (ahI (b6:=b6) (b8:=b8) (b11:=b11) (bm:=bm) (set:=set) (m:=lI grid set (cells.take k)) (c:=c) hg (by omega) hml hs) (next:=λ_ _=>?_);rw[<- hmt];refine go ?_;exact bi (k+1) (by omega) (by omega)
 have hkl:k=cells.length:=by omega
 subst hkl;rw[eH]at hml⊢;refine aZ (adp (b:=bm) (f:=0) (c:=grid.length) (xs:=lI grid set cells)) (h:=?_);rw[hml];refine go ?_;refine ak (ahE (g:=aA) (aC:=lI grid set cells) hll) (next:=λy hy=>?_);obtain⟨a,n,e⟩:=y;have he:e=0:=hy.1.2 ⟨hG,by rw[hml,hgl]⟩;subst he;have hn:=hy.2.1 rfl;dsimp only at hn;cases loop with
 |false=>
  refine go ?_;refine aj () (hv:=?_) (hp:=trivial);rw[vH,if_neg (by simp),<- hn];show Value.bool (decide ((n:Int)<=1))=_;rw[show decide ((n:Int)<=1)=decide (n<=1)from nK.2 (by omega)]
 |true=>
  refine go ?_;refine aJ rfl (λh2=>?_) (λh2=>?_)
  ·have h2:(n:Int)=0:=h2;refine go ?_;refine aj () (hv:=?_) (hp:=trivial);rw[vH,if_neg (by rw[<- hn];exact λh=>h.2 (by omega)),<- hn];show Value.bool (decide ((n:Int)<=1))=_;rw[show decide ((n:Int)<=1)=decide (n<=1)from nK.2 (by omega)]
  have h2:¬(n:Int)=0:=h2;refine go ?_;refine ak (ahG (g:=aA) (aC:=lI grid set cells) hll) (next:=λz hz=>?_);obtain⟨r,e⟩:=z;have he:e=0:=hz.1.2 ⟨hG,by rw[hml,hgl]⟩;subst he;have hr:=hz.2.1 rfl;dsimp only at hr;subst hr;refine go ?_;refine aj () (hv:=?_) (hp:=trivial);rw[vH,if_pos ⟨rfl,by rw[<- hn];omega⟩];rfl
structure ahJ(c:JW):Prop where
 cells:c.cells.length<9223372036854775808
 runs:c.runs.length<9223372036854775808
theorem ahK{b4:Nat}{sm x:Int}:KF Tryz.prog (.func 141) [] [ptr' b4] (.int .i64 x) [bz b4 0 [.int .i64 sm]] (decide (x<0\/sm<=x)):=by
 refine aK _ (aM 141) λB w0=>?_;refine go ?_;refine gG (λh1=>?_) (λh1=>?_)
 ·refine go ?_;refine aj () (hv:=?_) (hp:=trivial);rw[show decide (x<0\/sm<=x)=decide (sm<=x)from nK.2 ⟨λh=>h.elim (λh=>absurd h h1) id,.inr⟩];rfl
 refine go ?_;refine aj () (hv:=?_) (hp:=trivial);rw[fQ (.inl h1)];rfl
def Fin(cells symbols:Int)(grid:List Int):Prop:=(grid.length:Int)=cells/\∀s∈grid,0<=s/\s<symbols
theorem ahL{vg:Value}{cells symbols:Int}{grid:List Int}(hl:grid.length<9223372036854775808):
 aQ Tryz.prog (.func 64) [.int .i64 cells,.int .i64 symbols,vg] [] [] [ah ae vg grid] (λb:Bool=>.bool b) (λ_=>[]) (λ_=>[]) (λb=>(b=true↔Fin cells symbols grid)):=by
 refine aK _ (aM 64) λB w0=>?_;refine go ?_;intro b4;refine aZ (dH (b:=b4)) (h:=?_);refine go ?_;refine gG (λh1=>?_) (λh1=>?_)
 ·refine go ?_;exact aj false (hv:=rfl) (hp:=⟨(λh=>by cases h),λh=>absurd h.1 h1⟩)
 refine go ?_;refine ak (Xj (p:=λx=>decide (x<0\/symbols<=x)) hl (λx _=>ahK (b4:=b4) (sm:=symbols))) (next:=λ_ _=>?_);refine go ?_;refine aj (!grid.any λx=>decide (x<0\/symbols<=x)) (hv:=rfl) (hp:=?_);rw[List.not_any_eq_all_not];simp only[iV,Cb,decide_eq_false_iff_not,not_or,Int.not_lt,Int.not_le];exact⟨λh=>⟨h1,h⟩,λh=>h.2⟩
structure am3(q:VU):Prop where
 cells:1<=q.cells/\q.cells<=256
 symbols:1<=q.symbols/\q.symbols<=16
 KG:(q.values.length:Int)=q.symbols
 vals:∀v∈q.values,0<=v/\v<=99
 pO:(q.aA.length:Int)=q.cells
 am4:iX q.aA
 many:q.cons.length<=4096
 fine:∀c∈q.cons,OH q.cells q.symbols c
structure am5(q:VU):Prop where
 values:q.values.length<9223372036854775808
 aA:∀l∈q.aA,l.length<9223372036854775808
 cons:q.cons.length<9223372036854775808
 con:∀c∈q.cons,ahJ c
