/- Part. -/
import Derived.Test.YtgimfpcgbmpkhaaGreatProg
import Derived.Test.YtgimfpcgbmpkhaaGreatPlainAV
set_option linter.all false
set_option maxRecDepth 10000
set_option maxHeartbeats 4000000
namespace Go.Proofs.YtgimfpcgbmpkhaaGreat
open Tryz (prog)
open Go.Ideal
noncomputable def Pz:=qL prog 184
def UB:enF prog 184=some Pz:=oB
noncomputable def PD:=qL prog 92
def UC:enF prog 92=some PD:=oB
def amx(m n:Nat):decide (((m>>>n&&&1:Nat):Int)=1)=m.testBit n:=by
 rw[Nat.testBit,Nat.and_comm,Nat.one_and_eq_mod_two];have:m>>>n%2=0\/m>>>n%2=1:=ov
 rcases this with h|h<;>simp[h]
variable{set:Nat}
def Hz{jB:Nat}(hs:set<2^63)(hb:jB<64):dO prog 102 [iV (set:Int),iV (jB:Int)] [] (.bool (set.testBit jB)):=by
 refine gB 102 λB w0=>?_;refine go ?_;refine(dx rfl rfl (J2 rfl rfl hb)).h ?_;refine(dx rfl rfl (J3 (b:=1) rfl rfl (IY (Nat.shiftRight_le _ _) hs) ov)).h ?_;refine aZ ?_;rw[<- amx];rfl
structure Bh(grid:List Int):Prop where
 len:grid.length<=1000000
 jB:∀x∈grid,0<=x/\x<16
structure Bi(grid cells:List Int):Prop where
 len:cells.length<=1000000
 cell:∀c∈cells,0<=c/\c<grid.length
def sy(grid:ae Int)(c:Int):Nat:=(grid.getD c.toNat 0).toNat
def cnt(grid:ae Int)(set:Nat)(cells:ae Int):Nat:=(cells.filter λc=>set.testBit (sy grid c)).length
variable{k:Nat}{α:Type}
def take_one{xs:ae α}{x:α}(h:xs[k]? =some x):xs.take (k+1)=xs.take k++[x]:=by
 rw[rP,h];rfl
variable{grid:ae Int}{c s:Nat}
def HV(h:grid[c]? =some (s:Int)):sy grid (c:Int)=s:=by
 simp[sy,List.getD,h]
variable{vg vc:ah}{cells:ae Int}
def amy(hg:Bh grid)(hc:Bi grid cells)(hs:set<2^63):
 dO prog 82 [vg,vc,iV (set:Int)] [ay aj vg grid,ay aj vc cells] (iV (cnt grid set cells:Int)):=by
 refine gB 82 λB w0=>?_;have hcl:=hc.len;refine gL (λk=>cells.length - k) (λk:Nat=>[(11,iV (k:Int)),(6,iV (cnt grid set (cells.take k):Int))]) (λk=>k<=cells.length/\cnt grid set (cells.take k)<=k) 0 ⟨ov,by simp[cnt]⟩ ?_;rintro k ⟨hk,hn⟩;refine aK ?_ ?_<;>intro h1
 .refine go ?_;intro _ _ c hck;have hcc:=hc.cell c (aV hck);obtain⟨c,rfl⟩:=dW hcc.1;refine go ?_;intro _ _ x hx;have sV:=hg.jB x (aV hx);obtain⟨x,rfl⟩:=dW sV.1;refine fH (Hz (set:=set) (jB:=x) hs ov) (next:=λ_ _=>?_);refine go ?_;have hstep:cnt grid set (cells.take (k+1))=cnt grid set (cells.take k)+if set.testBit x then 1 else 0:=by
   rw[cnt,take_one hck,ze,fu,<- cnt];congr 1;simp only[FH,List.filter_nil,HV hx];split<;>rfl
  refine yA rfl (λh2=>?_) (λh2=>?_)
  .rw[if_pos h2]at hstep;exact eU
  .rw[if_neg (by rw[h2];simp)]at hstep;exact eU
 refine go ?_;have:k=cells.length:=ov
 subst this;refine ou () (hv:=?_) (hp:=trivial);rw[dK];rfl
structure PE(values grid:List Int):Prop where
 val:∀v∈values,0<=v/\v<=99
 jB:∀x∈grid,x<values.length
def va(values grid:ae Int)(c:Int):Int:=values.getD (sy grid c) 0
def qG(values grid cells:ae Int):Int:=(cells.map (va values grid)).sum
variable{values:ae Int}
def abG{v:Int}(h:grid[c]? =some (s:Int))(h2:values[s]? =some v):va values grid (c:Int)=v:=by
 simp[va,HV h,List.getD,h2]
variable{vv:ah}
def amz(hg:Bh grid)(hc:Bi grid cells)(hv:PE values grid):
 dO prog 85 [vv,vg,vc] [ay aj vv values,ay aj vg grid,ay aj vc cells] (iV (qG values grid cells)):=by
 refine gB 85 λB w0=>?_;have hcl:=hc.len;refine gL (λk=>cells.length - k) (λk:Nat=>[(11,iV (k:Int)),(6,iV (qG values grid (cells.take k)))]) (λk=>k<=cells.length/\0<=qG values grid (cells.take k)/\qG values grid (cells.take k)<=99*k) 0 ⟨ov,by simp[qG],by simp[qG]⟩ ?_;rintro k ⟨hk,hn0,hn⟩;refine aK ?_ ?_<;>intro h1
 .refine go ?_;intro _ _ c hck;have hcc:=hc.cell c (aV hck);obtain⟨c,rfl⟩:=dW hcc.1;refine go ?_;intro _ _ x hx;have sV:=hg.jB x (aV hx);have hxv:=hv.jB x (aV hx);obtain⟨x,rfl⟩:=dW sV.1;refine go ?_;intro _ _ v wZ;have hvv:=hv.val v (aV wZ);have hstep:qG values grid (cells.take (k+1))=qG values grid (cells.take k)+v:=by
   rw[qG,take_one hck,bZ,List.sum_append,<- qG];simp[abG hx wZ]
  refine go ?_;exact aW (k+1) ov ⟨ov,ov,ov⟩ (hl:=⟨rfl,by rw[hstep];rfl,oV⟩)
 refine go ?_;have:k=cells.length:=ov
 subst this;refine ou () (hv:=?_) (hp:=trivial);rw[dK];rfl
def Bj(grid cells:ae Int):Bool:=decide (cells.map (sy grid)).Nodup
def met(grid cells:ae Int):Nat:=cells.foldl (λm c=>m|||1<<<sy grid c) 0
def abH(grid:ae Int):∀(cells:ae Int) (m s:Nat),(cells.foldl (λm c=>m|||1<<<sy grid c) m).testBit s=(m.testBit s||decide (s∈cells.map (sy grid)))
 |[],m,s=>by simp
 |c::cells,m,s=>by
  rw[vI,abH grid cells,Nat.testBit_or];have:(1<<<sy grid c).testBit s=decide (s=sy grid c):=by
   rw[Nat.testBit_shiftLeft];by_cases h:s=sy grid c
   .subst h;simp
   .by_cases h2:sy grid c<=s
    .have:s - sy grid c≠0:=by omega
     have h3:(1:Nat).testBit (s - sy grid c)=false:=Nat.testBit_lt_two_pow (Nat.one_lt_two_pow this);simp[h,h2,h3]
    .simp[h,h2]
  rw[this,Bool.or_assoc];congr 1;simp only[iX,dm,Bool.decide_or]
def amA(hg:Bh grid)(hc:Bi grid cells):
 dO prog 78 [vg,vc] [ay aj vg grid,ay aj vc cells] (.bool (Bj grid cells)):=by
 refine gB 78 λB w0=>?_;have hcl:=hc.len;refine gL (λk=>cells.length - k) (λk:Nat=>[(10,iV (k:Int)),(5,iV (met grid (cells.take k):Int))]) (λk=>k<=cells.length/\met grid (cells.take k)<2^16/\((cells.take k).map (sy grid)).Nodup) 0 ⟨ov,by simp[met],ox⟩ ?_;rintro k ⟨hk,hm,hnd⟩;refine aK ?_ ?_<;>intro h1
 .refine go ?_;intro _ _ c hck;have hcc:=hc.cell c (aV hck);obtain⟨c,rfl⟩:=dW hcc.1;refine go ?_;intro _ _ x hx;have sV:=hg.jB x (aV hx);obtain⟨x,rfl⟩:=dW sV.1;refine fH (Hz (set:=met grid (cells.take k)) (jB:=x) ov ov) (next:=λ_ _=>?_);have hbit:(met grid (cells.take k)).testBit x=decide (x∈(cells.take k).map (sy grid)):=by rw[met,abH];simp
  have hmap:(cells.take (k+1)).map (sy grid)=(cells.take k).map (sy grid)++[x]:=by rw[take_one hck,bZ];simp[HV hx]
  refine go ?_;refine yA rfl (λh2=>?_) (λh2=>?_)
  .refine aZ ?_;rw[hbit]at h2;have h2:=jI h2;have:Bj grid cells=false:=by
    refine dA λhall=>?_;have h3:((cells.take (k+1)).map (sy grid)).Nodup:=List.Nodup.sublist (List.Sublist.map _ (Mj _ _)) hall;rw[hmap,j5]at h3;exact h3.2.2 x h2 x ox rfl
   rw[this];rfl
  refine go ?_;intro _ _ x' hx';cases hx.symm.trans hx';rw[hbit]at h2;have h2:=wS h2;have hsh:1<<<x<2^16:=by rw[aoz,BS];exact Mk ov ov
  refine(dx rfl rfl (SS (a:=1) rfl rfl ov ov)).h ?_;refine(dx rfl rfl (Zg rfl rfl ov ov)).h ?_;refine go ?_;have hstep:met grid (cells.take (k+1))=met grid (cells.take k)|||1<<<x:=by
   rw[met,take_one hck,vJ,<- met];simp[HV hx]
  refine aW (k+1) ov ⟨ov,by rw[hstep];exact QI hm hsh,?_⟩ (hl:=⟨rfl,by rw[hstep];rfl,oV⟩);rw[hmap,j5];exact⟨hnd,ox,by rintro a ha b hb rfl;simp at hb;subst hb;exact h2 ha⟩
 refine go ?_;have:k=cells.length:=ov
 subst this;rw[dK]at hnd;refine ou () (hv:=?_) (hp:=trivial);rw[Bj,eB hnd];rfl
def ris(values grid cells:ae Int):Bool:=decide ((cells.map (va values grid)).Pairwise (·<·))
def amB(hg:Bh grid)(hc:Bi grid cells)(hv:PE values grid):
 dO prog 88 [vv,vg,vc] [ay aj vv values,ay aj vg grid,ay aj vc cells] (.bool (ris values grid cells)):=by
 refine gB 88 λB w0=>?_;have hcl:=hc.len;refine gL (λk=>cells.length - k.1) (λk:Nat×Int=>[(12,iV (k.1:Int)),(7,iV k.2)]) (λk=>k.1<=cells.length/\(∀v∈(cells.take k.1).map (va values grid),v<=k.2)/\(k.2= -1\/k.2∈(cells.take k.1).map (va values grid))/\((cells.take k.1).map (va values grid)).Pairwise (·<·)) (0, -1) ⟨ox,ox,ox,ox⟩ ?_;rintro⟨k,last⟩ ⟨hk,hmax,hlast,hpw⟩;dsimp only at hk hmax hlast hpw;refine aK ?_ ?_<;>intro h1
 .refine go ?_;intro _ _ c hck;have hcc:=hc.cell c (aV hck);obtain⟨c,rfl⟩:=dW hcc.1;refine go ?_;intro _ _ x hx;have sV:=hg.jB x (aV hx);have hxv:=hv.jB x (aV hx);obtain⟨x,rfl⟩:=dW sV.1;refine go ?_;intro _ _ v wZ;have hvv:=hv.val v (aV wZ);have hmap:(cells.take (k+1)).map (va values grid)=(cells.take k).map (va values grid)++[v]:=by rw[take_one hck,bZ];simp[abG hx wZ]
  refine rU rfl ?_ ?_<;>intro h2
  .refine aZ ?_;have:ris values grid cells=false:=by
    refine dA λhall=>?_;have h3:((cells.take (k+1)).map (va values grid)).Pairwise (·<·):=List.Pairwise.sublist (List.Sublist.map _ (Mj _ _)) hall;rw[hmap,Mi]at h3;rcases hlast with e|e
    .omega
    .have:=h3.2.2 last e v ox;omega
   rw[this];rfl
  refine go ?_;intro _ _ x' hx';cases hx.symm.trans hx';refine go ?_;intro _ _ v' hv';cases wZ.symm.trans hv';refine go ?_;refine aW (k+1,v) pA ⟨by show k+1<=_;omega,?_,?_,?_⟩
  .intro u hu;rw[hmap]at hu;rcases fU.1 hu with hu|hu
   .have:=hmax u hu;show u<=v;omega
   .simp at hu;show u<=v;omega
  .right;rw[hmap];simp
  .show((cells.take (k+1)).map (va values grid)).Pairwise (·<·);rw[hmap,Mi];refine⟨hpw,ox,λa ha b hb=>?_⟩;simp at hb;subst hb;have:=hmax a ha;omega
 refine go ?_;have:k=cells.length:=ov
 subst this;rw[dK]at hpw;refine ou () (hv:=?_) (hp:=trivial);rw[ris,eB hpw];rfl
def amC{a b n:Int}(ha:0<=a/\a<=1000)(hb:0<=b/\b<=1000):dO prog 99 [iV a,iV b,iV n] [] (.bool (decide (n<=max (a - b) (b - a)))):=by
 refine gB 99 λB w0=>?_;refine go ?_;refine(dx rfl rfl (Zh rfl rfl)).h ?_;exact dH
def rn(grid:ae Int)(set:Nat):Nat->ae Int->ae Int
 |n,[]=>if 0<n then[(n:Int)]else[]
 |n,c::cs=>if set.testBit (sy grid c)then rn grid set (n+1) cs else if 0<n then(n:Int)::rn grid set 0 cs else rn grid set 0 cs
def head_drop{l m:ae α}{x:α}{j:Nat}(h:x::l=m.drop j):m[j]? =some x/\l=m.drop (j+1):=by
 have hlt:j<m.length:=by
  exact fp
 rw[mX hlt]at h;injection h with h1 h2;exact⟨by rw[bN hlt,h1],h2⟩
variable{b4 b5 b3:Nat}
def amD(hg:Bh grid)(hc:Bi grid cells)(hs:set<2^63):
 GG prog (λx:Int=>iV x) (.func 185) [] [ptr' b4,ptr' b5,ptr' b3] [aX b4 0 [vc],aX b5 0 [iV (set:Int)],aX b3 0 [vg],ay aj vg grid,ay aj vc cells] (rn grid set 0 cells):=by
 intro S inv ok step s0 oM y1 y2 F' h0 hok hy;dsimp only[List.cons_append,List.nil_append];refine gB 185 λB w0=>?_;have hcl:=hc.len;refine go ?_;refine dL (λx=>cells.length - x.1) (λx:Nat×Nat×S=>[(10,iV (x.1:Int)),(5,iV (x.2.1:Int))]) (λx=>inv x.2.2) (λ_=>[])
  (λx=>x.1<=cells.length/\x.2.1<=x.1/\∃j,ok j x.2.2/\cz step x.2.2 (rn grid set x.2.1 (cells.drop x.1))=cz step s0 (rn grid set 0 cells)/\rn grid set x.2.1 (cells.drop x.1)=(rn grid set 0 cells).drop j) (0,0,s0) ⟨ox,ox,0,h0,rfl,rfl⟩ (body:=?_)
 rintro⟨k,n,s⟩ ⟨hk,hn,j,hos,hrun,hmem⟩;dsimp only at hk hn hos hrun hmem⊢;refine aK ?_ ?_<;>intro h1
 .refine go ?_;intro _ _ c hck;have hcc:=hc.cell c (aV hck);obtain⟨c,rfl⟩:=dW hcc.1;have hdrop:cells.drop k=(c:Int)::cells.drop (k+1):=by
   obtain⟨hlt,he⟩:=bz.1 hck;rw[mX hlt,he]
  rw[hdrop]at hrun hmem;refine go ?_;intro _ _ x hx;have sV:=hg.jB x (aV hx);obtain⟨x,rfl⟩:=dW sV.1;refine fH (Hz (set:=set) (jB:=x) hs ov) (next:=λ_ _=>?_);refine go ?_;rw[rn,HV hx]at hrun hmem;refine yA rfl (λh2=>?_) (λh2=>?_)
  .rw[if_pos h2]at hrun hmem;refine go ?_;exact aW (k+1,n+1,s) pA ⟨by show k+1<=_;omega,by show n+1<=k+1;omega,j,hos,hrun,hmem⟩
  rw[if_neg (by rw[h2];simp)]at hrun hmem;refine gH ?_ ?_<;>intro h3
  .rw[if_neg ov]at hrun hmem;refine go ?_;exact aW (k+1,0,s) pA ⟨by show k+1<=_;omega,by show 0<=k+1;omega,j,hos,hrun,hmem⟩
  rw[if_pos ov]at hrun hmem;refine go ?_;have hj:=head_drop hmem;refine fH (hy j s n hos hj.1) (next:=λ_ _=>?_);refine go ?_;rw[cz]at hrun;cases hst:step s n with
  |mk s' b=>
   rw[hst]at hrun;cases b with
   |true=>
    refine go ?_;exact aW (k+1,0,s') pA ⟨by show k+1<=_;omega,by show 0<=k+1;omega,j+1,by have:=hok j s n hos hj.1 (by rw[hst]);rw[hst]at this;exact this,hrun,hj.2⟩
   |false=>
    exact dH (hk:=sC)
 have hkl:k=cells.length:=ov
 subst hkl;rw[DY]at hrun hmem;refine aK ?_ ?_<;>intro h3
 .rw[rn,if_pos ov]at hrun hmem;refine go ?_;have hj:=head_drop hmem;refine fH (hy j s n hos hj.1) (next:=λ_ _=>?_);refine go ?_;have:(step s n).1=cz step s0 (rn grid set 0 cells):=by
   rw[<- hrun,cz];cases hst:step s n with
   |mk s' b=>cases b<;>rfl
  exact gQ () trivial (hk:=by rw[<- this];exact aJ.all _)
 .rw[rn,if_neg ov]at hrun;exact dH (hk:=sC)
def amE:aY prog (.func 93) [vg,vc,iV (set:Int)] [] [] [ay aj vg grid,ay aj vc cells]
 (λy:Nat×Nat×Nat=>.func (.func 185) #[] #[ptr' y.2.1,ptr' y.2.2,ptr' y.1]) (λ_=>[]) (λy=>[aX y.2.1 0 [vc],aX y.2.2 0 [iV (set:Int)],aX y.1 0 [vg],ay aj vg grid,ay aj vc cells]) (λ_=>True):=by
 refine gB 93 λB w0=>?_;refine gF aj vg grid λa1 c1 e1=>?_;refine gF aj vc cells λa2 c2 e2=>?_;subst e1 e2;refine go ?_;intro b3 b4 b5;refine gP b3 ?_;refine gP b4 ?_;refine gP b5 ?_;exact gQ (b3,b4,b5) trivial
abbrev UE{α:Type}(E:Enc α)(b:Nat)(ys:ae α):OA:=Ez λv:ah=>[pt b (.cells [v]),ap E v ys]
variable{xs:ae Int}{fn:Fn}{first captured:ae ah}{F1:ae aI}
def amF(hit:GG prog (λx:Int=>iV x) fn first captured F1 xs)(hl:xs.length<=1000000):
 aY prog (.func 184) [.slice none 0 0,.func fn ⟨first⟩ ⟨captured⟩] [] [] F1 (λv:ah=>v) (λ_=>[]) (λv=>[ay aj v xs]) (λ_=>True):=by
 refine zD Pz UB λB w0=>?_;refine go ?_;intro b2;refine kv aj ?_;refine oz (λv:ah=>[pt b2 (.cells [v]),ap aj v ([]:ae Int)]) (.slice none 0 0) (h:=?_);refine Zi (val:=λx:Int=>iV x) (λ(ys:ae Int) (x:Int)=>(ys++[x],Out.normal)) (λys=>[UE aj b2 ys]) (λk ys=>ys=xs.take k) [] rfl (λk s x hs hx _=>by rw[hs,take_one hx]) hit
  (hb:=?_) (next:=?_) (jM:=λs x=>trivial)
 .intro k s x lo L B w0 hs hx;subst hs;have hlen:(xs.take k).length<=1000000:=by rw[gW];omega
  refine rW (h:=λv=>?_);refine go ?_;intro b10;refine jy (xs:=xs.take k) aj x () ov (next:=λad=>?_);refine go ?_;refine oz (λv:ah=>[pt b2 (.cells [v]),ap aj v (xs.take k++[x])]) _ (h:=?_);exact dN
 .intro r;have hrun:∀(ys zs:ae Int),gM (λ(ys:ae Int) (x:Int)=>(ys++[x],Out.normal)) ys zs=(ys++zs,.normal):=by
   exact iq
  rw[hrun,bP];dsimp only[List.cons_append,List.nil_append];refine rW (h:=λv=>?_);refine go ?_;refine gZ (ja (E:=aj) (v:=v) (xs:=xs)) ?_;exact uO v (hv:=rfl) (hp:=trivial)
def amG(hit:GG prog (λx:Int=>iV x) fn first captured F1 xs)(hl:xs.length<=1000000):
 aY prog (.func 92) [.func fn ⟨first⟩ ⟨captured⟩] [] [] F1 (λv:ah=>v) (λ_=>[]) (λv=>[ay aj v xs]) (λ_=>True):=by
 refine l7 PD UC λB w0=>?_;refine gC (amF hit hl) λv _=>?_;refine go ?_;exact gQ v trivial
variable{va:ah}
def wC{vb:ah}{ys:ae Int}(hal:xs.length<2^63):dO prog 91 [va,vb] [ay aj va xs,ay aj vb ys] (.bool (decide (xs=ys))):=by
 refine gB 91 λB w0=>?_;refine aK ?_ ?_<;>intro h1
 .exact cU
 have hlen:xs.length=ys.length:=ov
 refine gN xs.length 13 (λk=>k<=xs.length/\∀j,j<k->xs[j]? =ys[j]?) ⟨ov,λj hj=>by omega⟩ ?_;rintro k ⟨hkx,hsame⟩;refine aK ?_ ?_<;>intro h2
 .refine go ?_;intro _ _ x hx _ _ y hy;refine rU rfl ?_ ?_<;>intro h3
  .exact cP
  refine go ?_;refine aW (k+1) ov ⟨ov,λj hj=>?_⟩;by_cases e:j=k
  .subst e;rw[hx,hy,j6.1 h3]
  .exact hsame j ov
 exact cj
abbrev KP(P:Program)(fn:Fn)(first cap:ae ah)(v:ah)(F:ae aI)(b:Bool):Prop:=aY P fn (first++[v]) cap [] F (λ_:Unit=>.bool b) (λ_=>[]) (λ_=>[]) (λ_=>True)
variable{cap:ae ah}{p:Int->Bool}
def amH(hl:xs.length<2^63)(hp:∀x∈xs,KP prog fn first cap (iV x) F1 (p x)):
 fC prog 199 [va,.func fn ⟨first⟩ ⟨cap⟩] (ay aj va xs::F1) (λr:Int=>iV r) (λr=>(0<=r↔xs.any p=true)):=by
 refine gB 199 λB w0=>?_;refine gN xs.length 8 (λk=>k<=xs.length/\(xs.take k).any p=false) ⟨ov,ox⟩ ?_;rintro k ⟨hk,hno⟩;refine aK ?_ ?_<;>intro h1
 .refine go ?_;intro _ _ x hx;refine fH (hp x (aV hx)) (next:=λ_ _=>?_);refine go ?_;refine yA rfl (λh2=>?_) (λh2=>?_)
  .refine go ?_;refine gQ (k:Int) ?_;have:xs.any p=true:=List.any_eq_true.2 ⟨x,aV hx,h2⟩;simp[this]
  .refine go ?_;refine aW (k+1) ov ⟨ov,?_⟩;rw[take_one hx,List.any_append,hno];simp[h2]
 refine go ?_;have:k=xs.length:=ov
 subst this;rw[dK]at hno;refine gQ (-1) ?_;rw[hno];simp
def UF(hl:xs.length<2^63)(hp:∀x∈xs,KP prog fn first cap (iV x) F1 (p x)):
 fC prog 120 [va,.func fn ⟨first⟩ ⟨cap⟩] (ay aj va xs::F1) (λ_:Unit=>.bool (xs.any p)) (λ_=>True):=by
 refine gB 120 λB w0=>?_;refine gC (amH hl hp) λr hr=>?_;refine aZ ?_;have:decide (0<=r)=xs.any p:=by
  by_cases h:0<=r
  .rw[eB h,hr.1 h]
  .rw[dA h];cases e:xs.any p with
   |false=>rfl
   |true=>exact absurd (hr.2 e) h
 rw[<- this];rfl
variable{z:Int}
def amI(hl:xs.length<2^63):
 fC prog 240 [va,iV z] [ay aj va xs] (λr:Int=>iV r) (λr=>(0<=r↔z∈xs)):=by
 refine gB 240 λB w0=>?_;refine gN xs.length 8 (λk=>k<=xs.length/\z∉xs.take k) ⟨ov,ox⟩ ?_;rintro k ⟨hk,hno⟩;refine aK ?_ ?_<;>intro h1
 .refine go ?_;intro _ _ x hx;refine rU rfl ?_ ?_<;>intro h2
  .refine go ?_;refine gQ (k:Int) ?_;subst h2;simp[aV hx]
  .refine go ?_;refine aW (k+1) ov ⟨ov,?_⟩;rw[take_one hx,fU,not_or];exact⟨hno,pN⟩
 refine go ?_;have:k=xs.length:=ov
 subst this;rw[dK]at hno;refine gQ (-1) ?_;simp[hno]
def UG(hl:xs.length<2^63):dO prog 201 [va,iV z] [ay aj va xs] (.bool (decide (z∈xs))):=by
 refine gB 201 λB w0=>?_;refine gC (amI hl) λr hr=>?_;refine aZ ?_;rw[<- nZ.2 hr];rfl
variable{lo hi:Int}
def amJ{x:Int}:KP prog (.func 200) [] [ptr' b4,ptr' b5] (iV x) [aX b4 0 [iV lo],aX b5 0 [iV hi]] (decide (x<lo\/hi<x)):=by
 refine gB 200 λB w0=>?_;refine gH ?_ ?_<;>intro h1
 .refine aZ ?_;rw[show decide (x<lo\/hi<x)=decide (hi<x)from nZ.2 ⟨λh=>h.elim (λh=>absurd h h1) id,.inr⟩];rfl
 exact mR
def Bn(xs:ae Int)(lo hi:Int):Bool:=decide (∀x∈xs,lo<=x/\x<=hi)
def UH(hl:xs.length<2^63):dO prog 124 [va,iV lo,iV hi] [ay aj va xs] (.bool (Bn xs lo hi)):=by
 refine gB 124 λB w0=>?_;refine go ?_;intro b4 b5;refine gP b4 ?_;refine gP b5 ?_;refine fH (UF (p:=λx=>decide (x<lo\/hi<x)) hl (λx _=>amJ (b4:=b4) (b5:=b5))) (next:=λ_ _=>?_);refine aZ ?_;have:(!xs.any λx=>decide (x<lo\/hi<x))=Bn xs lo hi:=by
  rw[List.not_any_eq_all_not,Bn];rw[wM];simp only[jU,decide_eq_true_eq,Md,decide_eq_false_iff_not,not_or,Int.not_lt]
 rw[<- this];rfl
structure jW(g:List (List Int)):Prop where
 len:g.length<=256
 ok:∀(i:Nat) l,g[i]? =some l->∀(k:Nat) n,l[k]? =some n->0<=n/\n<g.length/\n≠i/\(∀m,0<k->l[k - 1]? =some m->m<n)/\∀l',g[n.toNat]? =some l'->(i:Int)∈l'
variable{g:ae (ae Int)}
def amK(hll:∀l∈g,l.length<2^63):fC prog 125 [vg] [ay (aA aj) vg g] (λb:Bool=>iV (if b then 0 else 120)) (λb=>(b=true↔jW g)):=by
 refine gB 125 λB w0=>?_;refine aK ?_ ?_<;>intro h1
 .refine go ?_;exact gQ false ⟨(λh=>by cases h),(λh=>by have:=h.len;omega)⟩
 refine go ?_;refine dL (λk=>g.length - k) (λk:Nat=>[(12,iV (k:Int))]) (λ_=>[]) (λ_=>[])
  (λi=>i<=g.length/\∀(i':Nat) l,i'<i->g[i']? =some l->∀(k:Nat) n,l[k]? =some n->0<=n/\n<g.length/\n≠i'/\(∀m,0<k->l[k - 1]? =some m->m<n)/\∀l',g[n.toNat]? =some l'->(i':Int)∈l') 0 ⟨ov,λi' l h=>by omega⟩ (body:=?_)
 rintro i ⟨hi,hall⟩;refine aK ?_ ?_<;>intro h2
 .refine gX (aA aj) λ_ _ l (vl:ah) UI=>?_;have hl1:=hll l (aV UI);refine go ?_;refine dL (λk=>l.length - k) (λk:Nat=>[(19,iV (k:Int))]) (λ_=>[]) (λ_=>[])
   (λk=>k<=l.length/\∀(k':Nat) n,k'<k->l[k']? =some n->0<=n/\n<g.length/\n≠i/\(∀m,0<k'->l[k' - 1]? =some m->m<n)/\∀l',g[n.toNat]? =some l'->(i:Int)∈l') 0 ⟨ov,λk' n h=>by omega⟩ (body:=?_)
  rintro k ⟨hk,hin⟩;refine aK ?_ ?_<;>intro h3
  .refine go ?_;intro _ _ n hn;have hbad:∀(_:¬(0<=n/\n<g.length/\n≠i/\(∀m,0<k->l[k - 1]? =some m->m<n)/\∀l',g[n.toNat]? =some l'->(i:Int)∈l')),¬jW g:=λh hG=>h (hG.ok i l UI k n hn);refine gG ?_ ?_<;>intro h4
   rotate_left
   .exact eJ
   refine gH ?_ ?_<;>intro h5
   rotate_left
   .exact eJ
   refine gH ?_ ?_<;>intro h6
   rotate_left
   .exact eJ
   refine go ?_;obtain⟨n,rfl⟩:=dW (show 0<=n by omega);refine gG ?_ ?_<;>intro h7
   .have UJ:∀m,0<k->l[k - 1]? =some m->m<(n:Int):=λm hm=>by omega
    refine gX (aA aj) λ_ _ l' (rC:ah) hl'=>?_;have UK:=hll l' (aV hl');refine gC (UG (xs:=l') UK) λ_ _=>?_;refine go ?_;refine qW rfl (λh9=>?_) (λh9=>?_)
    .exact gf
    refine go ?_;refine aW (k+1) ov ⟨ov,λk' m hk' hm=>?_⟩;by_cases e:k'=k
    .exact fW
    .exact hin k' m ov hm
   refine go ?_;obtain⟨k,rfl⟩:∃k',k=k'+1:=⟨k - 1,ov⟩
   intro _ _ m hm;rw[show(((k+1:Nat):Int) - 1).toNat=k by omega]at hm;refine gG ?_ ?_<;>intro h8
   .have UJ:∀u,0<k+1->l[k+1 - 1]? =some u->u<(n:Int):=λu _ hu=>by
     rw[Mf,hm]at hu;cases hu;omega
    refine gX (aA aj) λ_ _ l' (rC:ah) hl'=>?_;have UK:=hll l' (aV hl');refine gC (UG (xs:=l') UK) λ_ _=>?_;refine go ?_;refine qW rfl (λh9=>?_) (λh9=>?_)
    .exact gf
    refine go ?_;refine aW (k+1+1) ov ⟨ov,λk' m hk' hm=>?_⟩;by_cases e:k'=k+1
    .exact fW
    .exact hin k' m ov hm
   refine go ?_;refine gQ false ⟨(λh=>by cases h),λhG=>absurd hG (hbad (λh=>by have:=h.2.2.2.1 m ov (by rw[Mf];exact hm);omega))⟩
  refine go ?_;refine aW (i+1) ov ⟨ov,λi' l2 hi' hl2=>?_⟩;by_cases e:i'=i
  .subst e;rw[UI]at hl2;cases hl2;exact λk' n hn=>hin k' n (by have:=(bz.1 hn).1;omega) hn
  .exact hall i' l2 ov hl2
 refine go ?_;refine gQ true ⟨λ_=>⟨ov,λi' l hl=>hall i' l (by have:=(bz.1 hl).1;omega) hl⟩,λ_=>rfl⟩
def abJ{vs:ah}{sets:ae (ae Bool)}(hll:∀l∈g,l.length<2^63)(hsl:sets.length<2^63):fC prog 222 [vg,vs] [ay (aA aj) vg g,ay (aA lG) vs sets] (λr:Int=>iV r) (λr=>(r=0↔jW g/\∀s∈sets,s.length=g.length)):=by
 refine gB 222 λB w0=>?_;refine gC (amK hll) λb hb=>?_;cases b with
 |false=>
  refine go ?_;exact gQ 120 ⟨(λh=>by cases h),λh=>absurd (hb.2 h.1) ox⟩
 |true=>
  have hG:=hb.1 rfl;refine gN sets.length 15 (λk=>k<=sets.length/\∀s∈sets.take k,s.length=g.length) ⟨ov,ox⟩ ?_;rintro k ⟨hk,hall⟩;refine aK ?_ ?_<;>intro h1
  .refine gX (aA lG) λ_ _ s (v:ah) hs=>?_;refine aK ?_ ?_<;>intro h2
   .refine go ?_;exact gQ 1 ⟨(λh=>by cases h),λh=>absurd (h.2 s (aV hs)) (λe=>h2 (by rw[e]))⟩
   refine go ?_;refine aW (k+1) ov ⟨ov,λs' hs'=>?_⟩;rw[take_one hs]at hs';rcases fU.1 hs' with h|h
   .exact hall s' h
   .rw[eG.1 h];omega
  refine go ?_;have:k=sets.length:=ov
  subst this;rw[dK]at hall;exact gQ 0 ⟨λ_=>⟨hG,hall⟩,λ_=>rfl⟩
open Go.Ideal Gph
def abK(m:Nat):zeros [.bool false] m=(List.replicate m false).map Value.bool:=by rw[JN,List.map_replicate]
def amL{B:ae Nat}{w0:Wd}{kl kl':ae OA}{F:ae aI}{Q:IH->Prop}{b:Nat}(hk:aD (pt b (.cells [iV z])) kl kl')(h:R Q B w0 (ap aj (.slice (some ⟨b,0,some 0⟩) 1 1) [z]::kl') F):R Q B w0 kl F:=λw s=>
 h w ((s.fB hk).yz λS hp=>.inr ⟨b,0,0,_,rfl,.inl rfl,hp.1,hp.2,rfl,λk x hk=>by
  match k,hk with
  |0,hk=>cases hk;exact⟨(),λj u hj=>by simpa[aj]using hj,λf hf=>by cases hf⟩⟩)
variable{qh:ah}{aP:ae Bool}
def amM{s0:Int}(hG:jW g)(hll:∀l∈g,l.length<2^63)(hin:aP.length=g.length)(hs:0<=s0/\s0<g.length):
 GG prog (λx:Int=>iV x) (.func 303) [] [ptr' b3,ptr' b5,ptr' b4] [aX b3 0 [vg],aX b5 0 [iV s0],aX b4 0 [qh],ay (aA aj) vg g,ay lG qh aP] (A7 g aP s0):=by
 intro S inv ok step t0 oM y1 y2 F' h0 hok hy;dsimp only[List.cons_append,List.nil_append];refine gB 303 λB w0=>?_;have hlen:=hG.len;obtain⟨s0,rfl⟩:=dW hs.1;refine go ?_;refine qA g.length ⟨ov,ov,ov⟩ λb11=>?_;rw[abK];refine go ?_;refine jN (o:=0+s0*1) (cs:=(List.replicate g.length false).map Value.bool) (v:=.bool true) (cs':=(rq g.length s0).map Value.bool) (by rw[rq,qo];simp) oF ?_;refine go ?_;intro bq;refine amL (b:=bq) (z:=(s0:Int)) .here ?_;refine dL (λx=>x.1) (λx:Nat×ae Bool×ae Int×ah×S=>[(6,x.2.2.2.1)]) (λx=>pt b11 (.cells (x.2.1.map Value.bool))::ap aj x.2.2.2.1 x.2.2.1::inv x.2.2.2.2) (λ_=>[])
  (λx=>x.1<=g.length+1/\left x.2.1+x.2.2.1.length<=x.1/\x.2.1.length=g.length/\(∀n∈x.2.2.1,0<=n/\n<g.length)/\∃j,ok j x.2.2.2.2/\cz step x.2.2.2.2 (uP g aP x.1 x.2.1 x.2.2.1)=cz step t0 (A7 g aP s0)/\uP g aP x.1 x.2.1 x.2.2.1=(A7 g aP s0).drop j)
  (g.length+1,rq g.length s0,[(s0:Int)],.slice (some ⟨bq,0,some 0⟩) 1 1,t0) ⟨bG _,?_,?_,?_,0,h0,rfl,rfl⟩ (body:=?_)
 .show left (rq g.length s0)+1<=g.length+1;have:left (rq g.length s0)<=(rq g.length s0).length:=zh _ _;have h:(rq g.length s0).length=g.length:=by rw[rq,lu,zg]
  rw[h]at this;omega
 .show(rq g.length s0).length=g.length;rw[rq,lu,zg]
 .intro n hn;rw[eG.1 hn];omega
 rintro⟨f,met,queue,qv,s⟩ ⟨hfg,hf,hml,hq,j,hos,hrun,hdrop⟩;dsimp only at hfg hf hml hq hos hrun hdrop⊢;refine aK ?_ ?_<;>intro h1
 .obtain⟨q0,qs,rfl⟩:∃q0 qs,queue=q0::qs:=by
   cases queue with
   |nil=>simp at h1
   |cons a b=>exact⟨a,b,rfl⟩
  obtain⟨f,rfl⟩:∃f',f=f'+1:=⟨f - 1,by simp at hf;omega⟩
  obtain⟨q0,rfl⟩:=dW (hq q0 ox).1;have hq0:=hq q0 ox;rw[uP,fI]at hrun hdrop;have hj:=head_drop hdrop;refine go ?_;refine Zj 0 (q0:Int) rfl λ_ _=>?_;refine fH (hy j s q0 hos hj.1) (next:=λ_ _=>?_);rw[cz]at hrun;cases hst:step s q0 with
  |mk s' b=>
  rw[hst]at hrun;cases b with
  |false=>
   dsimp only at hrun;exact dH (hk:=by rw[<- hrun];exact aJ.self _ _)
  |true=>
  dsimp only at hrun;have amN:ok (j+1) s':=by have:=hok j s q0 hos hj.1 (by rw[hst]);rw[hst]at this;exact this
  refine go ?_;refine Zj 0 (q0:Int) rfl λ_ _=>?_;refine Ey (aA aj) (next:=λ_ _ ns (vl:ah) hns=>?_);have hnl:=hll ns (aV hns);have hnr:∀n∈ns,0<=n/\n<(g.length:Int):=λn hn=>by
   obtain⟨k,hk⟩:=gT hn;have:=hG.ok q0 ns hns k n hk;exact kY
  have hgd:g.getD q0 []=ns:=by rw[DV,hns];rfl
  rw[hgd]at hrun hdrop hj;obtain⟨i1,i2,i4,t,i5,i3⟩:=OP (g:=g) (aP:=aP) ns met ((q0:Int)::qs) hml hnr;refine go ?_;refine dL (λx=>ns.length - x.1) (λx:Nat×ae Bool×ae Int×ah=>[(35,iV (x.1:Int)),(6,x.2.2.2)]) (λx=>[pt b11 (.cells (x.2.1.map Value.bool)),ap aj x.2.2.2 x.2.2.1]) (λ_=>[])
   (λx=>x.1<=ns.length/\x.2.1.length=g.length/\inner aP (ns.drop x.1) x.2.1 x.2.2.1=inner aP ns met ((q0:Int)::qs)/\left x.2.1+x.2.2.1.length=left met+((q0:Int)::qs).length) (0,met,(q0:Int)::qs,qv) ⟨bI _,hml,rfl,rfl⟩ (body:=?_)
  rintro⟨k,met',q',qv'⟩ ⟨hk,KQ,hin',hl'⟩;dsimp only at hk KQ hin' hl'⊢;refine aK ?_ ?_<;>intro h2
  .refine go ?_;intro _ _ n hn;have hn0:=hnr n (aV hn);obtain⟨n,rfl⟩:=dW hn0.1;have hdk:ns.drop k=(n:Int)::ns.drop (k+1):=by
    obtain⟨hlt,he⟩:=bz.1 hn;rw[mX hlt,he]
   rw[hdk,inner]at hin';refine go ?_;intro _ _ c hc;have hc':dU aP n=c:=by unfold dU;rw[fI,DV,hc];rfl
   rw[hc']at hin';refine gG ?_ ?_<;>intro h3
   .subst h3;rw[if_neg ox]at hin';exact fR
   subst h3;have hnm:n<met'.length:=ov
   refine go ?_;refine oN (o:=0+n*1) (cs:=met'.map Value.bool) (.bool met'[n]) (by rw[gq,lU,eF,bN hnm];rfl) ?_;have hm':dU met' n=met'[n]:=by unfold dU;rw[fI,DV,bN hnm];rfl
   rw[hm',Bool.true_and]at hin';cases hmv:met'[n]with
   |true=>
    rw[hmv,if_neg ox]at hin';exact fR
   |false=>
    rw[hmv,if_pos ox,fI]at hin';have hls:=aas (met:=met') (n:=n) (by rw[bN hnm,hmv]);refine go ?_;refine jN (o:=0+n*1) (cs:=met'.map Value.bool) (v:=.bool true) (cs':=(met'.set n true).map Value.bool) (by rw[qo];simp) oF ?_;refine go ?_;intro b10;refine jy (xs:=q') aj (n:Int) () (by simp only[rJ]at hl' hf;omega) (next:=λad=>?_);refine go ?_;refine aW (k+1,met'.set n true,q'++[(n:Int)],_) tj ⟨by show k+1<=_;omega,by show(met'.set n true).length=_;rw[lu];exact KQ,hin',?_⟩;show left (met'.set n true)+(q'++[(n:Int)]).length=_;rw[fu,DZ];omega
  have hkn:k=ns.length:=ov
  subst hkn;rw[DY,inner]at hin';rw[<- hin']at i1 i2 i4 i5 hrun hdrop hj;dsimp only at i1 i2 i4 i5 hrun hdrop hj;rw[bQ]at i5;subst i5;rw[List.tail_cons]at hrun hj;refine go ?_;refine ajr aj (q:=(q0:Int)) (qs:=qs++t) (λad=>?_);refine go ?_;refine aW (f,met',qs++t,_,s') (yY f) ⟨by show f<=_;omega,?_,KQ,?_,j+1,amN,hrun,hj.2⟩
  .show left met'+(qs++t).length<=f;simp only[rJ,fu]at hl' hf⊢;omega
  .intro n hn;rcases fU.1 hn with h|h
   .exact hq n oW
   .exact hnr n ((i3 n).1 h).1
 have hnil:queue=[]:=by
  cases queue with
  |nil=>rfl
  |cons a b=>simp at h1
 subst hnil;have hb:uP g aP f met []=[]:=by cases f<;>rfl
 rw[hb,cz]at hrun;exact dH (hk:=by rw[<- hrun];exact .there _ (.there _ (aJ.all _)))
def jW.rg(h:jW g):∀l∈g,∀n∈l,Rg g n:=λl hl n hn=>by
 obtain⟨i,hi⟩:=gT hl;obtain⟨k,hk⟩:=gT hn;have:=h.ok i l hi k n hk;exact kY
def amO{s:Int}:aY prog (.func 241) [vg,qh,iV s] [] [] [ay (aA aj) vg g,ay lG qh aP]
 (λy:Nat×Nat×Nat=>.func (.func 303) #[] #[ptr' y.1,ptr' y.2.2,ptr' y.2.1]) (λ_=>[]) (λy=>[aX y.1 0 [vg],aX y.2.1 0 [qh],aX y.2.2 0 [iV s],ay (aA aj) vg g,ay lG qh aP]) (λ_=>True):=by
 refine gB 241 λB w0=>?_;refine gF (aA aj) vg g λa1 c1 e1=>?_;refine gF lG qh aP λa2 c2 e2=>?_;subst e1 e2;refine go ?_;intro b3 b4 b5;refine gP b3 ?_;refine gP b4 ?_;refine gP b5 ?_;exact gQ (b3,b4,b5) trivial
def amP(m:Nat):zeros [iV 0] m=(List.replicate m (0:Int)).map (Value.int .i64):=by rw[JN,List.map_replicate]
def abM{S α:Type}(f:S->α->S):∀(xs:ae α) (s:S),gM (λs x=>(f s x,Out.normal)) s xs=(xs.foldl f s,.normal)
 |[],s=>rfl
 |x::xs,s=>by rw[gM];exact abM f xs (f s x)
abbrev HY(b n:Nat):ah:=.slice (some ⟨b,0,some 0⟩) n n
def abN(hG:jW g)(hll:∀l∈g,l.length<2^63)(hin:aP.length=g.length):
 aY prog (.func 223) [vg,qh] [] [] [ay (aA aj) vg g,ay lG qh aP] (λb:Nat=>.tuple ⟨[HY b g.length,iV ((fD g aP g.length).2:Int)]⟩)
  (λb=>[pt b (.cells ((fD g aP g.length).1.map iV))]) (λ_=>[]) (λ_=>True):=by
 refine zD _ (pY 223) λB w0=>?_;have hlen:=hG.len;refine go ?_;intro b4 b5;refine qA g.length ⟨ov,ov,ov⟩ λbp=>?_;rw[amP];refine go ?_;refine Zk ?_;refine Zl (λx=>x.2.map Oh) (λx=>g.length - x.1) (λx:Nat×ae Nat=>[(13,iV (x.1:Int))])
  (λx=>[EC x.2,pt b4 (.cells [HY bp g.length]),pt b5 (.cells [iV ((fD g aP x.1).2:Int)]),pt bp (.cells ((fD g aP x.1).1.map iV))]) (λ_=>[]) (λx=>x.1<=g.length) (0,[]) (bI _)
  (hk:=bM) (body:=?_)
 rintro⟨k,rs⟩ hk;dsimp only at hk⊢;have hpk:=OT g aP k;have hst:=OQ g aP k;refine aK ?_ ?_<;>intro h1
 .refine go ?_;intro _ _ c hc;have hc':dU aP (k:Nat)=c:=by unfold dU;rw[fI,DV,hc];rfl
  have hkl:k<(fD g aP k).1.length:=ov
  have same:¬(dU aP (k:Nat)=true/\(fD g aP k).1.getD k 0<=0)->fD g aP (k+1)=fD g aP k:=λh=>by rw[hst,EL,if_neg h]
  have hgd:(fD g aP k).1.getD k 0=(fD g aP k).1[k]:=by rw[DV,bN hkl];rfl
  refine gH ?_ ?_<;>intro h2
  .have hct:c=true:=by simpa using h2
   refine go ?_;refine oN (o:=0+k*1) (cs:=(fD g aP k).1.map iV) (iV (fD g aP k).1[k]) (by rw[gq,lU,eF,bN hkl];rfl) ?_;refine aK ?_ ?_<;>intro h3
   .have e:=same (λh=>by rw[hgd]at h;omega);exact ew
   refine gC (amO (g:=g) (aP:=aP) (s:=(k:Int))) λy _=>?_;refine go ?_;have hkr:Rg g (k:Int):=⟨ov,ov⟩
   have hrr:=aav (aP:=aP) hG.rg hkr;have hstep:fD g aP (k+1)=(CR (fD g aP k).1 (A7 g aP k) ((fD g aP k).2+1:Nat),(fD g aP k).2+1):=by
    rw[hst,EL,if_pos ⟨by rw[hc',hct],by rw[hgd];omega⟩]
   refine Zi (val:=λx:Int=>iV x) (λ(p:ae Int) (n:Int)=>(p.set n.toNat (((fD g aP k).2:Int)+1),Out.normal))
    (λp=>[pt b4 (.cells [HY bp g.length]),pt b5 (.cells [iV (((fD g aP k).2:Int)+1)]),pt bp (.cells (p.map iV))]) (λ_ p=>p.length=g.length) (fD g aP k).1 hpk.1 (λk s x hs hx _=>by simp[hs])
    (amM (b3:=y.1) (b5:=y.2.2) (b4:=y.2.1) (s0:=(k:Int)) hG hll hin ⟨ov,ov⟩) (hb:=?_) (next:=?_) (jM:=λs x=>trivial)
   .intro j p n lo L B w0 hp hn;have hnr:=hrr n (aV hn);unfold Rg at hnr;obtain⟨n,rfl⟩:=dW hnr.1;refine go ?_;refine jN (o:=0+n*1) (cs:=p.map iV) (v:=iV (((fD g aP k).2:Int)+1)) (cs':=(p.set ((n:Int).toNat) (((fD g aP k).2:Int)+1)).map iV) (by rw[qo];simp) oF ?_;refine go ?_;exact dN
   .intro r;rw[abM];dsimp only[List.cons_append,List.nil_append];refine go ?_;refine S9 (rs:=rs) (r:=r) (h:=?_);have e1:((A7 g aP (k:Nat)).foldl (λ(p:ae Int) (n:Int)=>p.set n.toNat (((fD g aP k).2:Int)+1)) (fD g aP k).1)=(fD g aP (k+1)).1:=by rw[hstep];rfl
    have e2:(((fD g aP k).2:Int)+1)=((fD g aP (k+1)).2:Int):=by rw[hstep];rfl
    rw[e1,e2];exact J4 (k+1,r::rs) sE oH
  .have hcf:c=false:=by simpa using h2
   have e:=same (λh=>by rw[hc',hcf]at h;cases h.1);exact ew
 have hkl:k=g.length:=ov
 subst hkl;refine go ?_;exact Ta (rs:=rs) bp (hv:=rfl) (hp:=trivial)
def amQ(m:Nat):zeros [.slice none 0 0] m=List.replicate m (.slice none 0 0):=JN _ _
structure amR where
 a:Option Addr
 n:Nat
 e:Int
def amS(hll:∀l∈g,l.length<2^63):
 fC prog 187 [vg,qh] [ay (aA aj) vg g,ay lG qh aP] (λy:amR=>.tuple ⟨[.slice y.a y.n y.n,iV y.e]⟩) (λy=>(y.e=0↔jW g/\aP.length=g.length)/\(y.e=0->y.n=(fD g aP g.length).2)/\(y.e≠0->y.n=0)):=by
 refine gB 187 λB w0=>?_;refine gF lG qh aP λa2 c2 e2=>?_;subst e2;refine go ?_;intro b12;refine gP b12 ?_;refine fA (ay (aA lG) (HY b12 1) [aP]) (λw hw=>SV (v:=.slice a2 aP.length c2) (hw _ ox) (hw _ ox)) ?_;refine fH (abJ (g:=g) (sets:=[aP]) hll ox) (next:=λr hr=>?_);refine aK ?_ ?_<;>intro h1
 .refine go ?_;exact gQ ⟨none,0,r⟩ ⟨⟨λh=>absurd h h1,λh=>absurd (hr.2 ⟨h.1,by simpa using h.2⟩) h1⟩,λh=>absurd h h1,λ_=>rfl⟩
 have hr0:r=0:=j6.1 h1;obtain⟨hG,hin⟩:=hr.1 hr0;have hin:aP.length=g.length:=sF
 have hlen:=hG.len;have hpk:=OT g aP g.length;refine gC (abN (g:=g) (aP:=aP) hG hll hin) λbp _=>?_;refine go ?_;refine qA (fD g aP g.length).2 ⟨ov,ov,ov⟩ λbl=>?_;rw[amQ];refine ajy aj (h:=?_);refine gZ (uJ (b:=bp) (f:=0) (c:=g.length) (xs:=(fD g aP g.length).1)) ?_;rw[hpk.1];refine go ?_;refine dL (λx=>g.length - x.1) (λx:Nat×ae (ae Int)=>[(27,iV (x.1:Int))]) (λx=>[Oi aj bl x.2]) (λ_=>[])
  (λx=>x.1<=g.length/\x.2.length=(fD g aP g.length).2/\∀xs∈x.2,xs.length<=x.1) (0,List.replicate (fD g aP g.length).2 []) ⟨bI _,ox,λxs hx=>by rw[(List.mem_replicate.1 hx).2];simp⟩ (body:=?_)
 rintro⟨k,xss⟩ ⟨hk,hxl,hxs⟩;dsimp only at hk hxl hxs⊢;refine aK ?_ ?_<;>intro h2
 .have hkp:k<(fD g aP g.length).1.length:=by omega
  refine go ?_;intro _ _ p hp;have hpr:=hpk.2.2 p (aV hp);refine aK ?_ ?_<;>intro h3
  .obtain⟨p,rfl⟩:=dW hpr.1;have hp1:((p:Int) - 1).toNat<xss.length:=by omega
   refine go ?_;refine ajv aj (b:=bl) (xss:=xss) (bN hp1) (h:=λvs v hvl hv=>?_);have hvk:=hxs _ (rG hp1);refine oN (o:=0+((p:Int) - 1).toNat*1) (cs:=vs) v (by rw[gq,lU];exact hv) ?_;refine go ?_;intro b43;refine jy (xs:=xss[((p:Int) - 1).toNat]) aj (k:Int) () ov (next:=λad=>?_);refine go ?_;refine jN (o:=0+((p:Int) - 1).toNat*1) (cs:=vs) (v:=.slice ad (xss[((p:Int) - 1).toNat].length+1) (xss[((p:Int) - 1).toNat].length+1)) (cs':=vs.set ((p:Int) - 1).toNat (.slice ad (xss[((p:Int) - 1).toNat].length+1) (xss[((p:Int) - 1).toNat].length+1))) (by rw[gq,lU]) ov ?_;refine ajx aj (b:=bl) (xss:=xss) (vs:=vs) (k:=((p:Int) - 1).toNat) (xs:=xss[((p:Int) - 1).toNat]++[(k:Int)]) hvl hp1 (h:=?_);refine go ?_;refine aW (k+1,xss.set ((p:Int) - 1).toNat (xss[((p:Int) - 1).toNat]++[(k:Int)])) sE ⟨by show k+1<=_;omega,by show(xss.set _ _).length=_;rw[lu];exact hxl,λxs hx=>?_⟩;rcases List.mem_or_eq_of_mem_set hx with hx|rfl
   .have:=hxs xs hx;show _<=k+1;omega
   .show _<=k+1;rw[fu,DZ];omega
  .refine go ?_;exact aW (k+1,xss) sE ⟨by show k+1<=_;omega,hxl,λxs hx=>by have:=hxs xs hx;show _<=k+1;omega⟩
 refine go ?_;exact gQ ⟨some ⟨bl,0,some 0⟩,(fD g aP g.length).2,0⟩ ⟨⟨λ_=>⟨hG,hin⟩,λ_=>rfl⟩,λ_=>rfl,λh=>absurd rfl h⟩
def amU(hll:∀l∈g,l.length<2^63):
 fC prog 188 [vg,qh] [ay (aA aj) vg g,ay lG qh aP] (λy:Bool×Int=>.tuple ⟨[.bool y.1,iV y.2]⟩) (λy=>(y.2=0↔jW g/\aP.length=g.length)/\(y.2=0->y.1=G5 g aP)/\(y.2≠0->y.1=false)):=by
 refine gB 188 λB w0=>?_;refine gF lG qh aP λa2 c2 e2=>?_;subst e2;refine go ?_;intro b12;refine gP b12 ?_;refine fA (ay (aA lG) (HY b12 1) [aP]) (λw hw=>SV (v:=.slice a2 aP.length c2) (hw _ ox) (hw _ ox)) ?_;refine fH (abJ (g:=g) (sets:=[aP]) hll ox) (next:=λr hr=>?_);refine aK ?_ ?_<;>intro h1
 .refine go ?_;exact gQ (false,r) ⟨⟨λh=>absurd h h1,λh=>absurd (hr.2 ⟨h.1,by simpa using h.2⟩) h1⟩,λh=>absurd h h1,λ_=>rfl⟩
 have hr0:r=0:=j6.1 h1;obtain⟨hG,hin⟩:=hr.1 hr0;have hin:aP.length=g.length:=sF
 have hlen:=hG.len;refine gL (λk=>g.length - k) (λk:Nat=>[(23,iV (k:Int)),(6,iV (wh aP k:Int))]) (λk=>k<=g.length/\A9 g aP k) 0 ⟨bI _,λi hi=>by omega⟩ ?_;rintro k ⟨hk,hdg⟩;have hsz:=akY aP k;have hsucc:=akX aP k;refine aK ?_ ?_<;>intro h2
 .refine gX (aA aj) (xs:=g) λ_ _ l (vl:ah) hl=>?_;have hl1:=hll l (aV hl);have hgd:g.getD k []=l:=by rw[DV,hl];rfl
  refine go ?_;intro _ _ c hc;have hc':dU aP (k:Nat)=c:=by unfold dU;rw[fI,DV,hc];rfl
  rw[hc']at hsucc;refine go ?_;cases c with
  |false=>
   refine go ?_;refine aW (k+1) ov ⟨ov,λi hi hii=>?_⟩ (hl:=⟨rfl,by rw[hsucc];rfl,oV⟩);by_cases e:i=k
   .subst e;rw[hc']at hii;cases hii
   .exact hdg i ov hii
  |true=>
   refine gL (λj=>l.length - j) (λj:Nat=>[(37,iV (j:Int)),(9,iV (A8 aP (l.take j):Int))]) (λj=>j<=l.length) 0 (bI _) ?_;intro j hj;refine aK ?_ ?_<;>intro h3
   .refine go ?_;intro _ _ n hn;have hnr:=hG.ok k l hl j n hn;obtain⟨n,rfl⟩:=dW hnr.1;refine go ?_;intro _ _ d hd;have hd':dU aP (n:Nat)=d:=by unfold dU;rw[fI,DV,hd];rfl
    have hstep:A8 aP (l.take (j+1))=A8 aP (l.take j)+if d then 1 else 0:=by
     rw[A8,take_one hn,ze,fu,<- A8];congr 1;simp only[FH,List.filter_nil,hd'];split<;>rfl
    have hdl:A8 aP (l.take j)<=j:=by
     have:=zh (dU aP) (l.take j);rw[gW]at this;unfold A8;omega
    refine go ?_;cases d with
    |false=>
     exact fh
    |true=>
     exact fh
   have hjl:j=l.length:=ov
   subst hjl;rw[dK];refine aK ?_ ?_<;>intro h4
   .refine go ?_;refine gQ (false,0) ⟨⟨λ_=>⟨hG,hin⟩,λ_=>rfl⟩,λ_=>?_,λh=>absurd rfl h⟩;refine(aax λh=>h4 ?_).symm;have:=h.1 k ov hc';rw[hgd]at this;rw[this];rfl
   refine go ?_;refine aW (k+1) ov ⟨ov,λi hi hii=>?_⟩ (hl:=⟨rfl,by rw[hsucc];rfl,oV⟩);by_cases e:i=k
   .subst e;rw[hgd];omega
   .exact hdg i ov hii
 have hkl:k=g.length:=ov
 subst hkl;refine gC (abN (g:=g) (aP:=aP) hG hll hin) λbp _=>?_;refine gH ?_ ?_<;>intro h5
 .refine go ?_;refine gQ (false,0) ⟨⟨λ_=>⟨hG,hin⟩,λ_=>rfl⟩,λ_=>?_,λh=>absurd rfl h⟩;exact(aax λh=>by have:=h.2.1;omega).symm
 refine go ?_;refine gQ (decide (((fD g aP g.length).2:Int)=1),0) ⟨⟨λ_=>⟨hG,hin⟩,λ_=>rfl⟩,λ_=>?_,λh=>absurd rfl h⟩;rw[wM,lV,OU];exact⟨λh=>⟨hdg,ov,ov⟩,λh=>by have:=h.2.2;omega⟩
def nS(grid:ae Int)(set:Nat)(cells:ae Int):ae Bool:=cells.foldl (λm c=>m.set c.toNat (set.testBit (sy grid c))) (List.replicate grid.length false)
def abO(grid:ae Int)(set:Nat)(cells:ae Int):(nS grid set cells).length=grid.length:=by
 have:∀(cells:ae Int) (m:ae Bool),(cells.foldl (λm c=>m.set c.toNat (set.testBit (sy grid c))) m).length=m.length:=by
  intro cells;induction cells with
  |nil=>intro m;rfl
  |cons c cells ih=>intro m;rw[vI,ih,lu]
 rw[nS,this,zg]
def amV{c:Int}(h:cells[k]? =some c):nS grid set (cells.take (k+1))=(nS grid set (cells.take k)).set c.toNat (set.testBit (sy grid c)):=by
 rw[nS,take_one h,vJ];rfl
noncomputable def yJ(aH:ae (ae Int))(mk:ae Bool)(loop:Bool):Bool:=if loop=true/\(fD aH mk aH.length).2≠0 then G5 aH mk else decide ((fD aH mk aH.length).2<=1)
def amW{b6 b8 b11 bm:Nat}{m:ae Bool}(hg:Bh grid)(hc:c<grid.length)(hm:m.length=grid.length)(hs:set<2^63):
 aY prog (.func 186) [iV (c:Int)] [ptr' b8,ptr' b6,ptr' b11] [pt bm (.cells (m.map .bool))] [aX b8 0 [iV (set:Int)],aX b6 0 [vg],aX b11 0 [HY bm grid.length],ay aj vg grid]
  (λ_:Unit=>.tuple ⟨[]⟩) (λ_=>[pt bm (.cells ((m.set c (set.testBit (sy grid c))).map .bool))]) (λ_=>[]) (λ_=>True):=by
 refine gB 186 λB w0=>?_;refine go ?_;intro _ _ x hx;have sV:=hg.jB x (aV hx);obtain⟨x,rfl⟩:=dW sV.1;refine fH (Hz (set:=set) (jB:=x) hs ov) (next:=λ_ _=>?_);refine go ?_;refine jN (o:=0+c*1) (cs:=m.map .bool) (v:=.bool (set.testBit x)) (cs':=(m.set c (set.testBit (sy grid c))).map .bool) (by rw[qo,HV hx];simp) oF ?_;exact dH
def abP{vn:ah}{aH:ae (ae Int)}{loop:Bool}(hG:jW aH)(hll:∀l∈aH,l.length<2^63)(hgl:grid.length=aH.length)(hg:Bh grid)(hc:Bi grid cells)(hs:set<2^63):
 dO prog 104 [vn,vg,vc,iV (set:Int),.bool loop] [ay (aA aj) vn aH,ay aj vg grid,ay aj vc cells] (.bool (yJ aH (nS grid set cells) loop)):=by
 refine gB 104 λB w0=>?_;have hgn:=hG.len;have hcl:=hc.len;refine gF aj vg grid λa2 c2 e2=>?_;subst e2;refine go ?_;intro b6 b8;refine gP b6 ?_;refine gP b8 ?_;refine go ?_;refine qA grid.length ⟨ov,ov,ov⟩ λbm=>?_;rw[abK];refine go ?_;intro b11;refine go ?_;refine gP b11 ?_;refine go ?_;refine dL (λk=>cells.length - k) (λk:Nat=>[(25,iV (k:Int))]) (λk=>[pt bm (.cells ((nS grid set (cells.take k)).map .bool))]) (λ_=>[]) (λk=>k<=cells.length) 0 (bI _)
  (hk:=bM) (body:=?_)
 intro k hk;have hml:=abO grid set (cells.take k);refine aK ?_ ?_<;>intro h1
 .refine go ?_;intro _ _ c hck;have hcc:=hc.cell c (aV hck);have hmt:=amV (grid:=grid) (set:=set) hck;obtain⟨c,rfl⟩:=dW hcc.1;rw[fI]at hmt;refine gC (amW (b6:=b6) (b8:=b8) (b11:=b11) (bm:=bm) (set:=set) (m:=nS grid set (cells.take k)) (c:=c) hg ov hml hs) λ_ _=>?_;rw[<- hmt];refine go ?_;exact aW (k+1) ov ov
 have hkl:k=cells.length:=ov
 subst hkl;rw[dK]at hml⊢;refine gZ (SC (b:=bm) (f:=0) (c:=grid.length) (xs:=nS grid set cells)) ?_;rw[hml];refine gC (amS (g:=aH) (aP:=nS grid set cells) hll) λy hy=>?_;obtain⟨a,n,e⟩:=y;have he:e=0:=hy.1.2 ⟨hG,by rw[hml,hgl]⟩;subst he;have hn:=hy.2.1 rfl;dsimp only at hn;cases loop with
 |false=>
  refine aZ ?_;rw[yJ,if_neg ox,<- hn];exact hJ
 |true=>
  refine aK ?_ ?_<;>intro h2
  .have h2:(n:Int)=0:=h2;refine aZ ?_;rw[yJ,if_neg (by rw[<- hn];exact λh=>h.2 ov),<- hn];exact hJ
  have h2:¬(n:Int)=0:=h2;refine gC (amU (g:=aH) (aP:=nS grid set cells) hll) λz hz=>?_;obtain⟨r,e⟩:=z;have he:e=0:=hz.1.2 ⟨hG,by rw[hml,hgl]⟩;subst he;have hr:=hz.2.1 rfl;dsimp only at hr;subst hr;refine aZ ?_;rw[yJ,if_pos ⟨rfl,by rw[<- hn];omega⟩];rfl
