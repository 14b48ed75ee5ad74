/- Part. -/
import Derived.Test.YtgimfpcgbmpkhaaGreatProg
import Derived.Test.YtgimfpcgbmpkhaaGreatPlainAT
import Derived.Laws.Strings
set_option linter.all false
set_option maxRecDepth 10000
set_option maxHeartbeats 4000000
namespace Go.Proofs.YtgimfpcgbmpkhaaGreat
open Tryz (prog)
open Go.Ideal
noncomputable def Pz:=qL prog 184
def UB:ng prog 184=some Pz:=s8
noncomputable def PD:=qL prog 92
def UC:ng prog 92=some PD:=s8
def amx(m n:Nat):decide (((m>>>n&&&1:Nat):Int)=1)=m.testBit n:=by
 rw[Nat.testBit,Nat.and_comm,Nat.one_and_eq_mod_two];have:m>>>n%2=0\/m>>>n%2=1:=s6
 rcases this with h|h<;>simp[h]
variable{set:Nat}
def Hz{jB:Nat}(hs:set<2^63)(hb:jB<64):dO prog 102 [iV (set:Int),iV (jB:Int)] [] (.bool (set.testBit jB)):=by
 refine gB 102 λB w0=>?_;refine go ?_;refine(dx rfl rfl (J2 rfl rfl hb)).h ?_;refine(dx rfl rfl (J3 (b:=1) rfl rfl (IY (QO _ _) hs) s6)).h ?_;refine aZ ?_;rw[<- amx];rfl
structure Bh(grid:List Int):Prop where
 len:grid.length<=1000000
 jB:∀x∈grid,0<=x/\x<16
structure Bi(grid cells:List Int):Prop where
 len:cells.length<=1000000
 cell:∀c∈cells,0<=c/\c<grid.length
def sy(grid:ae Int)(c:Int):Nat:=(grid.getD c.toNat 0).toNat
def cnt(grid:ae Int)(set:Nat)(cells:ae Int):Nat:=(cells.filter λc=>set.testBit (sy grid c)).length
def take_one{α:Type}{xs:ae α}{k:Nat}{x:α}(h:xs[k]? =some x):xs.take (k+1)=xs.take k++[x]:=by
 rw[rP,h];rfl
variable{grid:ae Int}{c s:Nat}
def HV(h:grid[c]? =some (s:Int)):sy grid (c:Int)=s:=by
 simp[sy,List.getD,h]
variable{cells:ae Int}{vg vc:ah}
def amy(hg:Bh grid)(hc:Bi grid cells)(hs:set<2^63):
 dO prog 82 [vg,vc,iV (set:Int)] [ay aj vg grid,ay aj vc cells] (iV (cnt grid set cells:Int)):=by
 refine gB 82 λB w0=>?_;have hcl:=hc.len;refine gL (λk=>cells.length - k) (λk:Nat=>[(11,iV (k:Int)),(6,iV (cnt grid set (cells.take k):Int))]) (λk=>k<=cells.length/\cnt grid set (cells.take k)<=k) 0 ⟨s6,by simp[cnt]⟩ ?_;rintro k ⟨hk,hn⟩;refine aK ?_ ?_<;>intro h1
 .refine go ?_;intro _ _ c hck;have hcc:=hc.cell c (aV hck);obtain⟨c,rfl⟩:=dW hcc.1;refine go ?_;intro _ _ x hx;have sV:=hg.jB x (aV hx);obtain⟨x,rfl⟩:=dW sV.1;refine fH (Hz (set:=set) (jB:=x) hs s6) (next:=λ_ _=>?_);refine go ?_;have hstep:cnt grid set (cells.take (k+1))=cnt grid set (cells.take k)+if set.testBit x then 1 else 0:=by
   rw[cnt,take_one hck,ze,fu,<- cnt];congr 1;simp only[FH,List.filter_nil,HV hx];split<;>rfl
  refine yA rfl (λh2=>?_) (λh2=>?_)
  .rw[if_pos h2]at hstep;exact ir
  .rw[if_neg x6]at hstep;exact ir
 refine go ?_;have:k=cells.length:=s6
 subst this;refine ou () (hv:=?_) (hp:=trivial);rw[dK];rfl
structure PE(values grid:List Int):Prop where
 val:∀v∈values,0<=v/\v<=99
 jB:∀x∈grid,x<values.length
def va(values grid:ae Int)(c:Int):Int:=values.getD (sy grid c) 0
def qG(values grid cells:ae Int):Int:=(cells.map (va values grid)).sum
variable{values:ae Int}
def abG{v:Int}(h:grid[c]? =some (s:Int))(h2:values[s]? =some v):va values grid (c:Int)=v:=by
 simp[va,HV h,List.getD,h2]
variable{vv:ah}
def amz(hg:Bh grid)(hc:Bi grid cells)(hv:PE values grid):
 dO prog 85 [vv,vg,vc] [ay aj vv values,ay aj vg grid,ay aj vc cells] (iV (qG values grid cells)):=by
 refine gB 85 λB w0=>?_;have hcl:=hc.len;refine gL (λk=>cells.length - k) (λk:Nat=>[(11,iV (k:Int)),(6,iV (qG values grid (cells.take k)))]) (λk=>k<=cells.length/\0<=qG values grid (cells.take k)/\qG values grid (cells.take k)<=99*k) 0 ⟨s6,by simp[qG],by simp[qG]⟩ ?_;rintro k ⟨hk,hn0,hn⟩;refine aK ?_ ?_<;>intro h1
 .refine go ?_;intro _ _ c hck;have hcc:=hc.cell c (aV hck);obtain⟨c,rfl⟩:=dW hcc.1;refine go ?_;intro _ _ x hx;have sV:=hg.jB x (aV hx);have hxv:=hv.jB x (aV hx);obtain⟨x,rfl⟩:=dW sV.1;refine go ?_;intro _ _ v wZ;have hvv:=hv.val v (aV wZ);have hstep:qG values grid (cells.take (k+1))=qG values grid (cells.take k)+v:=by
   rw[qG,take_one hck,bZ,List.sum_append,<- qG];simp[abG hx wZ]
  refine go ?_;exact aW (k+1) s6 ⟨s6,s6,s6⟩ (hl:=⟨rfl,by rw[hstep];rfl,ur⟩)
 refine go ?_;have:k=cells.length:=s6
 subst this;refine ou () (hv:=?_) (hp:=trivial);rw[dK];rfl
def Bj(grid cells:ae Int):Bool:=decide (cells.map (sy grid)).Nodup
def met(grid cells:ae Int):Nat:=cells.foldl (λm c=>m|||1<<<sy grid c) 0
def abH(grid:ae Int):∀(cells:ae Int) (m s:Nat),(cells.foldl (λm c=>m|||1<<<sy grid c) m).testBit s=(m.testBit s||decide (s∈cells.map (sy grid)))
 |[],m,s=>by simp
 |c::cells,m,s=>by
  rw[vI,abH grid cells,Nat.testBit_or];have:(1<<<sy grid c).testBit s=decide (s=sy grid c):=by
   rw[Nat.testBit_shiftLeft];by_cases h:s=sy grid c
   .subst h;simp
   .by_cases h2:sy grid c<=s
    .have:s - sy grid c≠0:=by omega
     have h3:(1:Nat).testBit (s - sy grid c)=false:=Nat.testBit_lt_two_pow (Nat.one_lt_two_pow this);simp[h,h2,h3]
    .simp[h,h2]
  rw[this,Bool.or_assoc];congr 1;simp only[iX,dm,Bool.decide_or]
def amA(hg:Bh grid)(hc:Bi grid cells):
 dO prog 78 [vg,vc] [ay aj vg grid,ay aj vc cells] (.bool (Bj grid cells)):=by
 refine gB 78 λB w0=>?_;have hcl:=hc.len;refine gL (λk=>cells.length - k) (λk:Nat=>[(10,iV (k:Int)),(5,iV (met grid (cells.take k):Int))]) (λk=>k<=cells.length/\met grid (cells.take k)<2^16/\((cells.take k).map (sy grid)).Nodup) 0 ⟨s6,by simp[met],s7⟩ ?_;rintro k ⟨hk,hm,hnd⟩;refine aK ?_ ?_<;>intro h1
 .refine go ?_;intro _ _ c hck;have hcc:=hc.cell c (aV hck);obtain⟨c,rfl⟩:=dW hcc.1;refine go ?_;intro _ _ x hx;have sV:=hg.jB x (aV hx);obtain⟨x,rfl⟩:=dW sV.1;refine fH (Hz (set:=met grid (cells.take k)) (jB:=x) s6 s6) (next:=λ_ _=>?_);have hbit:(met grid (cells.take k)).testBit x=decide (x∈(cells.take k).map (sy grid)):=by rw[met,abH];simp
  have hmap:(cells.take (k+1)).map (sy grid)=(cells.take k).map (sy grid)++[x]:=by rw[take_one hck,bZ];simp[HV hx]
  refine go ?_;refine yA rfl (λh2=>?_) (λh2=>?_)
  .refine aZ ?_;rw[hbit]at h2;have h2:=jI h2;have:Bj grid cells=false:=by
    refine dA λhall=>?_;have h3:((cells.take (k+1)).map (sy grid)).Nodup:=List.Nodup.sublist (List.Sublist.map _ (Mj _ _)) hall;rw[hmap,j5]at h3;exact h3.2.2 x h2 x s7 rfl
   rw[this];rfl
  refine go ?_;intro _ _ x' hx';cases hx.symm.trans hx';rw[hbit]at h2;have h2:=wS h2;have hsh:1<<<x<2^16:=by rw[Nat.shiftLeft_eq,BS];exact Mk s6 s6
  refine(dx rfl rfl (SS (a:=1) rfl rfl s6 s6)).h ?_;refine(dx rfl rfl (Zg rfl rfl s6 s6)).h ?_;refine go ?_;have hstep:met grid (cells.take (k+1))=met grid (cells.take k)|||1<<<x:=by
   rw[met,take_one hck,vJ,<- met];simp[HV hx]
  refine aW (k+1) s6 ⟨s6,by rw[hstep];exact QI hm hsh,?_⟩ (hl:=⟨rfl,by rw[hstep];rfl,ur⟩);rw[hmap,j5];exact⟨hnd,s7,by rintro a ha b hb rfl;simp at hb;subst hb;exact h2 ha⟩
 refine go ?_;have:k=cells.length:=s6
 subst this;rw[dK]at hnd;refine ou () (hv:=?_) (hp:=trivial);rw[Bj,eB hnd];rfl
def Bl(values grid cells:ae Int):Bool:=decide ((cells.map (va values grid)).Pairwise (·<·))
def amB(hg:Bh grid)(hc:Bi grid cells)(hv:PE values grid):
 dO prog 88 [vv,vg,vc] [ay aj vv values,ay aj vg grid,ay aj vc cells] (.bool (Bl values grid cells)):=by
 refine gB 88 λB w0=>?_;have hcl:=hc.len;refine gL (λk=>cells.length - k.1) (λk:Nat×Int=>[(12,iV (k.1:Int)),(7,iV k.2)]) (λk=>k.1<=cells.length/\(∀v∈(cells.take k.1).map (va values grid),v<=k.2)/\(k.2= -1\/k.2∈(cells.take k.1).map (va values grid))/\((cells.take k.1).map (va values grid)).Pairwise (·<·)) (0, -1) ⟨s7,s7,s7,s7⟩ ?_;rintro⟨k,last⟩ ⟨hk,hmax,hlast,hpw⟩;dsimp only at hk hmax hlast hpw;refine aK ?_ ?_<;>intro h1
 .refine go ?_;intro _ _ c hck;have hcc:=hc.cell c (aV hck);obtain⟨c,rfl⟩:=dW hcc.1;refine go ?_;intro _ _ x hx;have sV:=hg.jB x (aV hx);have hxv:=hv.jB x (aV hx);obtain⟨x,rfl⟩:=dW sV.1;refine go ?_;intro _ _ v wZ;have hvv:=hv.val v (aV wZ);have hmap:(cells.take (k+1)).map (va values grid)=(cells.take k).map (va values grid)++[v]:=by rw[take_one hck,bZ];simp[abG hx wZ]
  refine rU rfl ?_ ?_<;>intro h2
  .refine aZ ?_;have:Bl values grid cells=false:=by
    refine dA λhall=>?_;have h3:((cells.take (k+1)).map (va values grid)).Pairwise (·<·):=List.Pairwise.sublist (List.Sublist.map _ (Mj _ _)) hall;rw[hmap,Mi]at h3;rcases hlast with e|e
    .omega
    .have:=h3.2.2 last e v s7;omega
   rw[this];rfl
  refine go ?_;intro _ _ x' hx';cases hx.symm.trans hx';refine go ?_;intro _ _ v' hv';cases wZ.symm.trans hv';refine go ?_;refine aW (k+1,v) yp ⟨by show k+1<=_;omega,?_,?_,?_⟩
  .intro u hu;rw[hmap]at hu;rcases fU.1 hu with hu|hu
   .have:=hmax u hu;show u<=v;omega
   .simp at hu;show u<=v;omega
  .right;rw[hmap];simp
  .show((cells.take (k+1)).map (va values grid)).Pairwise (·<·);rw[hmap,Mi];refine⟨hpw,s7,λa ha b hb=>?_⟩;simp at hb;subst hb;have:=hmax a ha;omega
 refine go ?_;have:k=cells.length:=s6
 subst this;rw[dK]at hpw;refine ou () (hv:=?_) (hp:=trivial);rw[Bl,eB hpw];rfl
end Go.Proofs.YtgimfpcgbmpkhaaGreat
namespace Go.Proofs.YtgimfpcgbmpkhaaGreat
open Tryz (prog)
open Go.Ideal
noncomputable def UD:=qL prog 91
def abI:ng prog 91=some UD:=s8
def amC{a b n:Int}(ha:0<=a/\a<=1000)(hb:0<=b/\b<=1000):dO prog 99 [iV a,iV b,iV n] [] (.bool (decide (n<=max (a - b) (b - a)))):=by
 refine gB 99 λB w0=>?_;refine go ?_;refine(dx rfl rfl (Zh rfl rfl)).h ?_;exact dH
def rn(grid:ae Int)(set:Nat):Nat->ae Int->ae Int
 |n,[]=>if 0<n then[(n:Int)]else[]
 |n,c::cs=>if set.testBit (sy grid c)then rn grid set (n+1) cs else if 0<n then(n:Int)::rn grid set 0 cs else rn grid set 0 cs
def head_drop{α:Type}{l m:ae α}{x:α}{j:Nat}(h:x::l=m.drop j):m[j]? =some x/\l=m.drop (j+1):=by
 have hlt:j<m.length:=by
  apply Classical.byContradiction;intro hn;rw[BU s6]at h;cases h
 rw[mX hlt]at h;injection h with h1 h2;exact⟨by rw[bN hlt,h1],h2⟩
variable{grid cells:ae Int}{vg vc:ah}{set:Nat}
def amD{b3 b4 b5:Nat}(hg:Bh grid)(hc:Bi grid cells)(hs:set<2^63):
 GG prog (λx:Int=>iV x) (.func 185) [] [ptr' b4,ptr' b5,ptr' b3] [aX b4 0 [vc],aX b5 0 [iV (set:Int)],aX b3 0 [vg],ay aj vg grid,ay aj vc cells] (rn grid set 0 cells):=by
 intro S inv ok step s0 oM y1 y2 F' h0 hok hy;dsimp only[List.cons_append,List.nil_append];refine gB 185 λB w0=>?_;have hcl:=hc.len;refine go ?_;refine dL (λx=>cells.length - x.1) (λx:Nat×Nat×S=>[(10,iV (x.1:Int)),(5,iV (x.2.1:Int))]) (λx=>inv x.2.2) (λ_=>[])
  (λx=>x.1<=cells.length/\x.2.1<=x.1/\∃j,ok j x.2.2/\cz step x.2.2 (rn grid set x.2.1 (cells.drop x.1))=cz step s0 (rn grid set 0 cells)/\rn grid set x.2.1 (cells.drop x.1)=(rn grid set 0 cells).drop j) (0,0,s0) ⟨s7,s7,0,h0,rfl,rfl⟩ (body:=?_)
 rintro⟨k,n,s⟩ ⟨hk,hn,j,hos,hrun,hmem⟩;dsimp only at hk hn hos hrun hmem⊢;refine aK ?_ ?_<;>intro h1
 .refine go ?_;intro _ _ c hck;have hcc:=hc.cell c (aV hck);obtain⟨c,rfl⟩:=dW hcc.1;have hdrop:cells.drop k=(c:Int)::cells.drop (k+1):=by
   obtain⟨hlt,he⟩:=bz.1 hck;rw[mX hlt,he]
  rw[hdrop]at hrun hmem;refine go ?_;intro _ _ x hx;have sV:=hg.jB x (aV hx);obtain⟨x,rfl⟩:=dW sV.1;refine fH (Hz (set:=set) (jB:=x) hs s6) (next:=λ_ _=>?_);refine go ?_;rw[rn,HV hx]at hrun hmem;refine yA rfl (λh2=>?_) (λh2=>?_)
  .rw[if_pos h2]at hrun hmem;refine go ?_;exact aW (k+1,n+1,s) yp ⟨by show k+1<=_;omega,by show n+1<=k+1;omega,j,hos,hrun,hmem⟩
  rw[if_neg x6]at hrun hmem;refine gH ?_ ?_<;>intro h3
  .rw[if_neg s6]at hrun hmem;refine go ?_;exact aW (k+1,0,s) yp ⟨by show k+1<=_;omega,by show 0<=k+1;omega,j,hos,hrun,hmem⟩
  rw[if_pos s6]at hrun hmem;refine go ?_;have hj:=head_drop hmem;refine fH (hy j s n hos hj.1) (next:=λ_ _=>?_);refine go ?_;rw[cz]at hrun;cases hst:step s n with
  |mk s' b=>
   rw[hst]at hrun;cases b with
   |true=>
    refine go ?_;exact aW (k+1,0,s') yp ⟨by show k+1<=_;omega,by show 0<=k+1;omega,j+1,by have:=hok j s n hos hj.1 (by rw[hst]);rw[hst]at this;exact this,hrun,hj.2⟩
   |false=>
    exact dH (hk:=wq)
 have hkl:k=cells.length:=s6
 subst hkl;rw[DY]at hrun hmem;refine aK ?_ ?_<;>intro h3
 .rw[rn,if_pos s6]at hrun hmem;refine go ?_;have hj:=head_drop hmem;refine fH (hy j s n hos hj.1) (next:=λ_ _=>?_);refine go ?_;have:(step s n).1=cz step s0 (rn grid set 0 cells):=by
   rw[<- hrun,cz];cases hst:step s n with
   |mk s' b=>cases b<;>rfl
  exact gQ () trivial (hk:=by rw[<- this];exact aJ.all _)
 .rw[rn,if_neg s6]at hrun;exact dH (hk:=wq)
def amE:aY prog (.func 93) [vg,vc,iV (set:Int)] [] [] [ay aj vg grid,ay aj vc cells]
 (λy:Nat×Nat×Nat=>.func (.func 185) #[] #[ptr' y.2.1,ptr' y.2.2,ptr' y.1]) (λ_=>[]) (λy=>[aX y.2.1 0 [vc],aX y.2.2 0 [iV (set:Int)],aX y.1 0 [vg],ay aj vg grid,ay aj vc cells]) (λ_=>True):=by
 refine gB 93 λB w0=>?_;refine gF aj vg grid λa1 c1 e1=>?_;refine gF aj vc cells λa2 c2 e2=>?_;subst e1 e2;refine go ?_;intro b3 b4 b5;refine gP b3 ?_;refine gP b4 ?_;refine gP b5 ?_;exact gQ (b3,b4,b5) trivial
abbrev UE{α:Type}(E:Enc α)(b:Nat)(ys:ae α):OA:=Ez λv:ah=>[pt b (.cells [v]),ap E v ys]
variable{xs:ae Int}{fn:Fn}{first captured:ae ah}{F1:ae aI}
def amF(hit:GG prog (λx:Int=>iV x) fn first captured F1 xs)(hl:xs.length<=1000000):
 aY prog (.func 184) [.slice none 0 0,.func fn ⟨first⟩ ⟨captured⟩] [] [] F1 (λv:ah=>v) (λ_=>[]) (λv=>[ay aj v xs]) (λ_=>True):=by
 refine zD Pz UB λB w0=>?_;refine go ?_;intro b2;refine kv aj ?_;refine oz (λv:ah=>[pt b2 (.cells [v]),ap aj v ([]:ae Int)]) (.slice none 0 0) (h:=?_);refine Zi (val:=λx:Int=>iV x) (λ(ys:ae Int) (x:Int)=>(ys++[x],Out.normal)) (λys=>[UE aj b2 ys]) (λk ys=>ys=xs.take k) [] rfl (λk s x hs hx _=>by rw[hs,take_one hx]) hit
  (hb:=?_) (next:=?_) (jM:=λs x=>trivial)
 .intro k s x lo L B w0 hs hx;subst hs;have hlen:(xs.take k).length<=1000000:=by rw[gW];omega
  refine rW (h:=λv=>?_);refine go ?_;intro b10;refine jy (xs:=xs.take k) aj x () s6 (next:=λad=>?_);refine go ?_;refine oz (λv:ah=>[pt b2 (.cells [v]),ap aj v (xs.take k++[x])]) _ (h:=?_);exact dy
 .intro r;have hrun:∀(ys zs:ae Int),gM (λ(ys:ae Int) (x:Int)=>(ys++[x],Out.normal)) ys zs=(ys++zs,.normal):=by
   intro ys zs;induction zs generalizing ys with
   |nil=>simp[gM]
   |cons z zs ih=>rw[gM];simp only[ih];simp
  rw[hrun,bP];dsimp only[List.cons_append,List.nil_append];refine rW (h:=λv=>?_);refine go ?_;refine gZ (ja (E:=aj) (v:=v) (xs:=xs)) ?_;exact uO v (hv:=rfl) (hp:=trivial)
def amG(hit:GG prog (λx:Int=>iV x) fn first captured F1 xs)(hl:xs.length<=1000000):
 aY prog (.func 92) [.func fn ⟨first⟩ ⟨captured⟩] [] [] F1 (λv:ah=>v) (λ_=>[]) (λv=>[ay aj v xs]) (λ_=>True):=by
 refine l7 PD UC λB w0=>?_;refine gC (amF hit hl) λv _=>?_;refine go ?_;exact gQ v trivial
def wC{va vb:ah}{ys:ae Int}(hal:xs.length<2^63):dO prog 91 [va,vb] [ay aj va xs,ay aj vb ys] (.bool (decide (xs=ys))):=by
 refine l7 UD abI λB w0=>?_;refine aK ?_ ?_<;>intro h1
 .exact dr
 have hlen:xs.length=ys.length:=s6
 refine gN xs.length 13 (λk=>k<=xs.length/\∀j,j<k->xs[j]? =ys[j]?) ⟨s6,λj hj=>by omega⟩ ?_;rintro k ⟨hkx,hsame⟩;refine aK ?_ ?_<;>intro h2
 .refine go ?_;intro _ _ x hx _ _ y hy;refine rU rfl ?_ ?_<;>intro h3
  .exact da
  exact jp
 exact cN
end Go.Proofs.YtgimfpcgbmpkhaaGreat
namespace Go.Proofs.YtgimfpcgbmpkhaaGreat
open Tryz (prog)
open Go.Ideal
abbrev KP(P:Program)(fn:Fn)(first cap:ae ah)(v:ah)(F:ae aI)(b:Bool):Prop:=aY P fn (first++[v]) cap [] F (λ_:Unit=>.bool b) (λ_=>[]) (λ_=>[]) (λ_=>True)
variable{va:ah}{xs:ae Int}{fn:Fn}{first cap:ae ah}{F1:ae aI}{p:Int->Bool}
def amH(hl:xs.length<2^63)(hp:∀x∈xs,KP prog fn first cap (iV x) F1 (p x)):
 fC prog 199 [va,.func fn ⟨first⟩ ⟨cap⟩] (ay aj va xs::F1) (λr:Int=>iV r) (λr=>(0<=r↔xs.any p=true)):=by
 refine gB 199 λB w0=>?_;refine gN xs.length 8 (λk=>k<=xs.length/\(xs.take k).any p=false) ⟨s6,s7⟩ ?_;rintro k ⟨hk,hno⟩;refine aK ?_ ?_<;>intro h1
 .refine go ?_;intro _ _ x hx;refine fH (hp x (aV hx)) (next:=λ_ _=>?_);refine go ?_;refine yA rfl (λh2=>?_) (λh2=>?_)
  .refine go ?_;refine gQ (k:Int) ?_;have:xs.any p=true:=List.any_eq_true.2 ⟨x,aV hx,h2⟩;simp[this]
  .refine go ?_;refine aW (k+1) s6 ⟨s6,?_⟩;rw[take_one hx,List.any_append,hno];simp[h2]
 refine go ?_;have:k=xs.length:=s6
 subst this;rw[dK]at hno;refine gQ (-1) ?_;rw[hno];simp
def UF(hl:xs.length<2^63)(hp:∀x∈xs,KP prog fn first cap (iV x) F1 (p x)):
 fC prog 120 [va,.func fn ⟨first⟩ ⟨cap⟩] (ay aj va xs::F1) (λ_:Unit=>.bool (xs.any p)) (λ_=>True):=by
 refine gB 120 λB w0=>?_;refine gC (amH hl hp) λr hr=>?_;refine aZ ?_;have:decide (0<=r)=xs.any p:=by
  by_cases h:0<=r
  .rw[eB h,hr.1 h]
  .rw[dA h];cases e:xs.any p with
   |false=>rfl
   |true=>exact absurd (hr.2 e) h
 rw[<- this];rfl
variable{z:Int}
def amI(hl:xs.length<2^63):
 fC prog 240 [va,iV z] [ay aj va xs] (λr:Int=>iV r) (λr=>(0<=r↔z∈xs)):=by
 refine gB 240 λB w0=>?_;refine gN xs.length 8 (λk=>k<=xs.length/\z∉xs.take k) ⟨s6,s7⟩ ?_;rintro k ⟨hk,hno⟩;refine aK ?_ ?_<;>intro h1
 .refine go ?_;intro _ _ x hx;refine rU rfl ?_ ?_<;>intro h2
  .refine go ?_;refine gQ (k:Int) ?_;subst h2;simp[aV hx]
  .refine go ?_;refine aW (k+1) s6 ⟨s6,?_⟩;rw[take_one hx,fU,not_or];exact⟨hno,wk⟩
 refine go ?_;have:k=xs.length:=s6
 subst this;rw[dK]at hno;refine gQ (-1) ?_;simp[hno]
def UG(hl:xs.length<2^63):dO prog 201 [va,iV z] [ay aj va xs] (.bool (decide (z∈xs))):=by
 refine gB 201 λB w0=>?_;refine gC (amI hl) λr hr=>?_;refine aZ ?_;rw[<- nZ.2 hr];rfl
variable{lo hi:Int}
def amJ{b4 b5:Nat}{x:Int}:KP prog (.func 200) [] [ptr' b4,ptr' b5] (iV x) [aX b4 0 [iV lo],aX b5 0 [iV hi]] (decide (x<lo\/hi<x)):=by
 refine gB 200 λB w0=>?_;refine gH ?_ ?_<;>intro h1
 .refine aZ ?_;rw[show decide (x<lo\/hi<x)=decide (hi<x)from nZ.2 ⟨λh=>h.elim (λh=>absurd h h1) id,.inr⟩];rfl
 refine aZ ?_;rw[eB (.inl h1)];rfl
def Bn(xs:ae Int)(lo hi:Int):Bool:=decide (∀x∈xs,lo<=x/\x<=hi)
def UH(hl:xs.length<2^63):dO prog 124 [va,iV lo,iV hi] [ay aj va xs] (.bool (Bn xs lo hi)):=by
 refine gB 124 λB w0=>?_;refine go ?_;intro b4 b5;refine gP b4 ?_;refine gP b5 ?_;refine fH (UF (p:=λx=>decide (x<lo\/hi<x)) hl (λx _=>amJ (b4:=b4) (b5:=b5))) (next:=λ_ _=>?_);refine aZ ?_;have:(!xs.any λx=>decide (x<lo\/hi<x))=Bn xs lo hi:=by
  rw[List.not_any_eq_all_not,Bn];rw[wM];simp only[jU,decide_eq_true_eq,Md,decide_eq_false_iff_not,not_or,Int.not_lt]
 rw[<- this];rfl
structure jW(g:List (List Int)):Prop where
 len:g.length<=256
 ok:∀(i:Nat) l,g[i]? =some l->∀(k:Nat) n,l[k]? =some n->0<=n/\n<g.length/\n≠i/\(∀m,0<k->l[k - 1]? =some m->m<n)/\∀l',g[n.toNat]? =some l'->(i:Int)∈l'
def amK{vg:ah}{g:ae (ae Int)}(hll:∀l∈g,l.length<2^63):fC prog 125 [vg] [ay (aA aj) vg g] (λb:Bool=>iV (if b then 0 else 120)) (λb=>(b=true↔jW g)):=by
 refine gB 125 λB w0=>?_;refine aK ?_ ?_<;>intro h1
 .refine go ?_;exact gQ false ⟨(λh=>by cases h),(λh=>by have:=h.len;omega)⟩
 refine go ?_;refine dL (λk=>g.length - k) (λk:Nat=>[(12,iV (k:Int))]) (λ_=>[]) (λ_=>[])
  (λi=>i<=g.length/\∀(i':Nat) l,i'<i->g[i']? =some l->∀(k:Nat) n,l[k]? =some n->0<=n/\n<g.length/\n≠i'/\(∀m,0<k->l[k - 1]? =some m->m<n)/\∀l',g[n.toNat]? =some l'->(i':Int)∈l') 0 ⟨s6,λi' l h=>by omega⟩ (body:=?_)
 rintro i ⟨hi,hall⟩;refine aK ?_ ?_<;>intro h2
 .refine gX (aA aj) λ_ _ l (vl:ah) UI=>?_;have hl1:=hll l (aV UI);refine go ?_;refine dL (λk=>l.length - k) (λk:Nat=>[(19,iV (k:Int))]) (λ_=>[]) (λ_=>[])
   (λk=>k<=l.length/\∀(k':Nat) n,k'<k->l[k']? =some n->0<=n/\n<g.length/\n≠i/\(∀m,0<k'->l[k' - 1]? =some m->m<n)/\∀l',g[n.toNat]? =some l'->(i:Int)∈l') 0 ⟨s6,λk' n h=>by omega⟩ (body:=?_)
  rintro k ⟨hk,hin⟩;refine aK ?_ ?_<;>intro h3
  .refine go ?_;intro _ _ n hn;have hbad:∀(_:¬(0<=n/\n<g.length/\n≠i/\(∀m,0<k->l[k - 1]? =some m->m<n)/\∀l',g[n.toNat]? =some l'->(i:Int)∈l')),¬jW g:=λh hG=>h (hG.ok i l UI k n hn);refine gG ?_ ?_<;>intro h4
   rotate_left
   .exact gA
   refine gH ?_ ?_<;>intro h5
   rotate_left
   .exact gA
   refine gH ?_ ?_<;>intro h6
   rotate_left
   .exact gA
   refine go ?_;obtain⟨n,rfl⟩:=dW (show 0<=n by omega);refine gG ?_ ?_<;>intro h7
   .have UJ:∀m,0<k->l[k - 1]? =some m->m<(n:Int):=λm hm=>by omega
    refine gX (aA aj) λ_ _ l' (rC:ah) hl'=>?_;have UK:=hll l' (aV hl');refine gC (UG (xs:=l') UK) λ_ _=>?_;refine go ?_;refine qW rfl (λh9=>?_) (λh9=>?_)
    .exact kx
    refine go ?_;refine aW (k+1) s6 ⟨s6,λk' m hk' hm=>?_⟩;by_cases e:k'=k
    .exact ki
    .exact hin k' m s6 hm
   refine go ?_;obtain⟨k,rfl⟩:∃k',k=k'+1:=⟨k - 1,s6⟩
   intro _ _ m hm;rw[show(((k+1:Nat):Int) - 1).toNat=k by omega]at hm;refine gG ?_ ?_<;>intro h8
   .have UJ:∀u,0<k+1->l[k+1 - 1]? =some u->u<(n:Int):=λu _ hu=>by
     rw[Mf,hm]at hu;cases hu;omega
    refine gX (aA aj) λ_ _ l' (rC:ah) hl'=>?_;have UK:=hll l' (aV hl');refine gC (UG (xs:=l') UK) λ_ _=>?_;refine go ?_;refine qW rfl (λh9=>?_) (λh9=>?_)
    .exact kx
    refine go ?_;refine aW (k+1+1) s6 ⟨s6,λk' m hk' hm=>?_⟩;by_cases e:k'=k+1
    .exact ki
    .exact hin k' m s6 hm
   refine go ?_;refine gQ false ⟨(λh=>by cases h),λhG=>absurd hG (hbad (λh=>by have:=h.2.2.2.1 m s6 (by rw[Mf];exact hm);omega))⟩
  refine go ?_;refine aW (i+1) s6 ⟨s6,λi' l2 hi' hl2=>?_⟩;by_cases e:i'=i
  .subst e;rw[UI]at hl2;cases hl2;exact λk' n hn=>hin k' n (by have:=(bz.1 hn).1;omega) hn
  .exact hall i' l2 s6 hl2
 refine go ?_;refine gQ true ⟨λ_=>⟨s6,λi' l hl=>hall i' l (by have:=(bz.1 hl).1;omega) hl⟩,λ_=>rfl⟩
end Go.Proofs.YtgimfpcgbmpkhaaGreat
namespace Go.Proofs.YtgimfpcgbmpkhaaGreat
open Tryz (prog)
open Go.Ideal
def abJ{vg vs:ah}{g:ae (ae Int)}{sets:ae (ae Bool)}(hll:∀l∈g,l.length<2^63)(hsl:sets.length<2^63):fC prog 222 [vg,vs] [ay (aA aj) vg g,ay (aA lG) vs sets] (λr:Int=>iV r) (λr=>(r=0↔jW g/\∀s∈sets,s.length=g.length)):=by
 refine gB 222 λB w0=>?_;refine gC (amK hll) λb hb=>?_;cases b with
 |false=>
  refine go ?_;exact gQ 120 ⟨(λh=>by cases h),λh=>absurd (hb.2 h.1) s7⟩
 |true=>
  have hG:=hb.1 rfl;refine gN sets.length 15 (λk=>k<=sets.length/\∀s∈sets.take k,s.length=g.length) ⟨s6,s7⟩ ?_;rintro k ⟨hk,hall⟩;refine aK ?_ ?_<;>intro h1
  .refine gX (aA lG) λ_ _ s (v:ah) hs=>?_;refine aK ?_ ?_<;>intro h2
   .refine go ?_;exact gQ 1 ⟨(λh=>by cases h),λh=>absurd (h.2 s (aV hs)) (λe=>h2 (by rw[e]))⟩
   refine go ?_;refine aW (k+1) s6 ⟨s6,λs' hs'=>?_⟩;rw[take_one hs]at hs';rcases fU.1 hs' with h|h
   .exact hall s' h
   .rw[bR.1 h];omega
  refine go ?_;have:k=sets.length:=s6
  subst this;rw[dK]at hall;exact gQ 0 ⟨λ_=>⟨hG,hall⟩,λ_=>rfl⟩
open Go.Ideal Gph
def abK(m:Nat):zeros [.bool false] m=(List.replicate m false).map Value.bool:=by rw[JN,List.map_replicate]
def amL{B:ae Nat}{w0:Wd}{kl kl':ae OA}{F:ae aI}{Q:IH->Prop}{b:Nat}{z:Int}(hk:aD (pt b (.cells [iV z])) kl kl')(h:R Q B w0 (ap aj (.slice (some ⟨b,0,some 0⟩) 1 1) [z]::kl') F):R Q B w0 kl F:=λw s=>
 h w ((s.fB hk).yz λS hp=>.inr ⟨b,0,0,_,rfl,.inl rfl,hp.1,hp.2,rfl,λk x hk=>by
  match k,hk with
  |0,hk=>cases hk;exact⟨(),λj u hj=>by simpa[aj]using hj,λf hf=>by cases hf⟩⟩)
def amM{b3 b4 b5:Nat}{vg qh:ah}{g:ae (ae Int)}{aP:ae Bool}{s0:Int}(hG:jW g)(hll:∀l∈g,l.length<2^63)(hin:aP.length=g.length)(hs:0<=s0/\s0<g.length):
 GG prog (λx:Int=>iV x) (.func 303) [] [ptr' b3,ptr' b5,ptr' b4] [aX b3 0 [vg],aX b5 0 [iV s0],aX b4 0 [qh],ay (aA aj) vg g,ay lG qh aP] (A7 g aP s0):=by
 intro S inv ok step t0 oM y1 y2 F' h0 hok hy;dsimp only[List.cons_append,List.nil_append];refine gB 303 λB w0=>?_;have hlen:=hG.len;obtain⟨s0,rfl⟩:=dW hs.1;refine go ?_;refine qA g.length ⟨s6,s6,s6⟩ λb11=>?_;rw[abK];refine go ?_;refine jN (o:=0+s0*1) (cs:=(List.replicate g.length false).map Value.bool) (v:=.bool true) (cs':=(rq g.length s0).map Value.bool) (by rw[rq,qo];simp) th ?_;refine go ?_;intro bq;refine amL (b:=bq) (z:=(s0:Int)) .here ?_;refine dL (λx=>x.1) (λx:Nat×ae Bool×ae Int×ah×S=>[(6,x.2.2.2.1)]) (λx=>pt b11 (.cells (x.2.1.map Value.bool))::ap aj x.2.2.2.1 x.2.2.1::inv x.2.2.2.2) (λ_=>[])
  (λx=>x.1<=g.length+1/\left x.2.1+x.2.2.1.length<=x.1/\x.2.1.length=g.length/\(∀n∈x.2.2.1,0<=n/\n<g.length)/\∃j,ok j x.2.2.2.2/\cz step x.2.2.2.2 (uP g aP x.1 x.2.1 x.2.2.1)=cz step t0 (A7 g aP s0)/\uP g aP x.1 x.2.1 x.2.2.1=(A7 g aP s0).drop j)
  (g.length+1,rq g.length s0,[(s0:Int)],.slice (some ⟨bq,0,some 0⟩) 1 1,t0) ⟨bG _,?_,?_,?_,0,h0,rfl,rfl⟩ (body:=?_)
 .show left (rq g.length s0)+1<=g.length+1;have:left (rq g.length s0)<=(rq g.length s0).length:=zh _ _;have h:(rq g.length s0).length=g.length:=by rw[rq,lu,zg]
  rw[h]at this;omega
 .show(rq g.length s0).length=g.length;rw[rq,lu,zg]
 .intro n hn;rw[bR.1 hn];omega
 rintro⟨f,met,queue,qv,s⟩ ⟨hfg,hf,hml,hq,j,hos,hrun,hdrop⟩;dsimp only at hfg hf hml hq hos hrun hdrop⊢;refine aK ?_ ?_<;>intro h1
 .obtain⟨q0,qs,rfl⟩:∃q0 qs,queue=q0::qs:=by
   cases queue with
   |nil=>simp at h1
   |cons a b=>exact⟨a,b,rfl⟩
  obtain⟨f,rfl⟩:∃f',f=f'+1:=⟨f - 1,by simp at hf;omega⟩
  obtain⟨q0,rfl⟩:=dW (hq q0 s7).1;have hq0:=hq q0 s7;rw[uP,fI]at hrun hdrop;have hj:=head_drop hdrop;refine go ?_;refine Zj 0 (q0:Int) rfl λ_ _=>?_;refine fH (hy j s q0 hos hj.1) (next:=λ_ _=>?_);rw[cz]at hrun;cases hst:step s q0 with
  |mk s' b=>
  rw[hst]at hrun;cases b with
  |false=>
   dsimp only at hrun;exact dH (hk:=by rw[<- hrun];exact aJ.self _ _)
  |true=>
  dsimp only at hrun;have amN:ok (j+1) s':=by have:=hok j s q0 hos hj.1 (by rw[hst]);rw[hst]at this;exact this
  refine go ?_;refine Zj 0 (q0:Int) rfl λ_ _=>?_;refine Ey (aA aj) (next:=λ_ _ ns (vl:ah) hns=>?_);have hnl:=hll ns (aV hns);have hnr:∀n∈ns,0<=n/\n<(g.length:Int):=λn hn=>by
   obtain⟨k,hk⟩:=gT hn;have:=hG.ok q0 ns hns k n hk;exact⟨this.1,this.2.1⟩
  have hgd:g.getD q0 []=ns:=by rw[DV,hns];rfl
  rw[hgd]at hrun hdrop hj;obtain⟨i1,i2,i4,t,i5,i3⟩:=OP (g:=g) (aP:=aP) ns met ((q0:Int)::qs) hml hnr;refine go ?_;refine dL (λx=>ns.length - x.1) (λx:Nat×ae Bool×ae Int×ah=>[(35,iV (x.1:Int)),(6,x.2.2.2)]) (λx=>[pt b11 (.cells (x.2.1.map Value.bool)),ap aj x.2.2.2 x.2.2.1]) (λ_=>[])
   (λx=>x.1<=ns.length/\x.2.1.length=g.length/\inner aP (ns.drop x.1) x.2.1 x.2.2.1=inner aP ns met ((q0:Int)::qs)/\left x.2.1+x.2.2.1.length=left met+((q0:Int)::qs).length) (0,met,(q0:Int)::qs,qv) ⟨bI _,hml,rfl,rfl⟩ (body:=?_)
  rintro⟨k,met',q',qv'⟩ ⟨hk,KQ,hin',hl'⟩;dsimp only at hk KQ hin' hl'⊢;refine aK ?_ ?_<;>intro h2
  .refine go ?_;intro _ _ n hn;have hn0:=hnr n (aV hn);obtain⟨n,rfl⟩:=dW hn0.1;have hdk:ns.drop k=(n:Int)::ns.drop (k+1):=by
    obtain⟨hlt,he⟩:=bz.1 hn;rw[mX hlt,he]
   rw[hdk,inner]at hin';refine go ?_;intro _ _ c hc;have hc':dU aP n=c:=by unfold dU;rw[fI,DV,hc];rfl
   rw[hc']at hin';refine gG ?_ ?_<;>intro h3
   .subst h3;rw[if_neg s7]at hin';exact j9
   subst h3;have hnm:n<met'.length:=s6
   refine go ?_;refine oN (o:=0+n*1) (cs:=met'.map Value.bool) (.bool met'[n]) (by rw[gq,lU,eF,bN hnm];rfl) ?_;have hm':dU met' n=met'[n]:=by unfold dU;rw[fI,DV,bN hnm];rfl
   rw[hm',L8]at hin';cases hmv:met'[n]with
   |true=>
    rw[hmv,if_neg s7]at hin';exact j9
   |false=>
    rw[hmv,if_pos s7,fI]at hin';have hls:=aas (met:=met') (n:=n) (by rw[bN hnm,hmv]);refine go ?_;refine jN (o:=0+n*1) (cs:=met'.map Value.bool) (v:=.bool true) (cs':=(met'.set n true).map Value.bool) (by rw[qo];simp) th ?_;refine go ?_;intro b10;refine jy (xs:=q') aj (n:Int) () (by simp only[rJ]at hl' hf;omega) (next:=λad=>?_);refine go ?_;refine aW (k+1,met'.set n true,q'++[(n:Int)],_) C4 ⟨by show k+1<=_;omega,by show(met'.set n true).length=_;rw[lu];exact KQ,hin',?_⟩;show left (met'.set n true)+(q'++[(n:Int)]).length=_;rw[fu,DZ];omega
  have hkn:k=ns.length:=s6
  subst hkn;rw[DY,inner]at hin';rw[<- hin']at i1 i2 i4 i5 hrun hdrop hj;dsimp only at i1 i2 i4 i5 hrun hdrop hj;rw[bQ]at i5;subst i5;rw[List.tail_cons]at hrun hj;refine go ?_;refine ajr aj (q:=(q0:Int)) (qs:=qs++t) (λad=>?_);refine go ?_;refine aW (f,met',qs++t,_,s') (yY f) ⟨by show f<=_;omega,?_,KQ,?_,j+1,amN,hrun,hj.2⟩
  .show left met'+(qs++t).length<=f;simp only[rJ,fu]at hl' hf⊢;omega
  .intro n hn;rcases fU.1 hn with h|h
   .exact hq n tt
   .exact hnr n ((i3 n).1 h).1
 have hnil:queue=[]:=by
  cases queue with
  |nil=>rfl
  |cons a b=>simp at h1
 subst hnil;have hb:uP g aP f met []=[]:=by cases f<;>rfl
 rw[hb,cz]at hrun;exact dH (hk:=by rw[<- hrun];exact .there _ (.there _ (aJ.all _)))
variable{g:ae (ae Int)}
def jW.rg(h:jW g):∀l∈g,∀n∈l,Rg g n:=λl hl n hn=>by
 obtain⟨i,hi⟩:=gT hl;obtain⟨k,hk⟩:=gT hn;have:=h.ok i l hi k n hk;exact⟨this.1,this.2.1⟩
variable{vg qh:ah}{aP:ae Bool}
def amO{s:Int}:aY prog (.func 241) [vg,qh,iV s] [] [] [ay (aA aj) vg g,ay lG qh aP]
 (λy:Nat×Nat×Nat=>.func (.func 303) #[] #[ptr' y.1,ptr' y.2.2,ptr' y.2.1]) (λ_=>[]) (λy=>[aX y.1 0 [vg],aX y.2.1 0 [qh],aX y.2.2 0 [iV s],ay (aA aj) vg g,ay lG qh aP]) (λ_=>True):=by
 refine gB 241 λB w0=>?_;refine gF (aA aj) vg g λa1 c1 e1=>?_;refine gF lG qh aP λa2 c2 e2=>?_;subst e1 e2;refine go ?_;intro b3 b4 b5;refine gP b3 ?_;refine gP b4 ?_;refine gP b5 ?_;exact gQ (b3,b4,b5) trivial
def amP(m:Nat):zeros [iV 0] m=(List.replicate m (0:Int)).map (Value.int .i64):=by rw[JN,List.map_replicate]
def abM{S α:Type}(f:S->α->S):∀(xs:ae α) (s:S),gM (λs x=>(f s x,Out.normal)) s xs=(xs.foldl f s,.normal)
 |[],s=>rfl
 |x::xs,s=>by rw[gM];exact abM f xs (f s x)
abbrev HY(b n:Nat):ah:=.slice (some ⟨b,0,some 0⟩) n n
def abN(hG:jW g)(hll:∀l∈g,l.length<2^63)(hin:aP.length=g.length):
 aY prog (.func 223) [vg,qh] [] [] [ay (aA aj) vg g,ay lG qh aP] (λb:Nat=>.tuple ⟨[HY b g.length,iV ((fD g aP g.length).2:Int)]⟩)
  (λb=>[pt b (.cells ((fD g aP g.length).1.map iV))]) (λ_=>[]) (λ_=>True):=by
 refine zD _ (pY 223) λB w0=>?_;have hlen:=hG.len;refine go ?_;intro b4 b5;refine qA g.length ⟨s6,s6,s6⟩ λbp=>?_;rw[amP];refine go ?_;refine Zk ?_;refine Zl (λx=>x.2.map Oh) (λx=>g.length - x.1) (λx:Nat×ae Nat=>[(13,iV (x.1:Int))])
  (λx=>[EC x.2,pt b4 (.cells [HY bp g.length]),pt b5 (.cells [iV ((fD g aP x.1).2:Int)]),pt bp (.cells ((fD g aP x.1).1.map iV))]) (λ_=>[]) (λx=>x.1<=g.length) (0,[]) (bI _)
  (hk:=tc) (body:=?_)
 rintro⟨k,rs⟩ hk;dsimp only at hk⊢;have hpk:=OT g aP k;have hst:=OQ g aP k;refine aK ?_ ?_<;>intro h1
 .refine go ?_;intro _ _ c hc;have hc':dU aP (k:Nat)=c:=by unfold dU;rw[fI,DV,hc];rfl
  have hkl:k<(fD g aP k).1.length:=s6
  have same:¬(dU aP (k:Nat)=true/\(fD g aP k).1.getD k 0<=0)->fD g aP (k+1)=fD g aP k:=λh=>by rw[hst,EL,if_neg h]
  have hgd:(fD g aP k).1.getD k 0=(fD g aP k).1[k]:=by rw[DV,bN hkl];rfl
  refine gH ?_ ?_<;>intro h2
  .have hct:c=true:=by simpa using h2
   refine go ?_;refine oN (o:=0+k*1) (cs:=(fD g aP k).1.map iV) (iV (fD g aP k).1[k]) (by rw[gq,lU,eF,bN hkl];rfl) ?_;refine aK ?_ ?_<;>intro h3
   .have e:=same (λh=>by rw[hgd]at h;omega);exact gf
   refine gC (amO (g:=g) (aP:=aP) (s:=(k:Int))) λy _=>?_;refine go ?_;have hkr:Rg g (k:Int):=⟨s6,s6⟩
   have hrr:=aav (aP:=aP) hG.rg hkr;have hstep:fD g aP (k+1)=(CR (fD g aP k).1 (A7 g aP k) ((fD g aP k).2+1:Nat),(fD g aP k).2+1):=by
    rw[hst,EL,if_pos ⟨by rw[hc',hct],by rw[hgd];omega⟩]
   refine Zi (val:=λx:Int=>iV x) (λ(p:ae Int) (n:Int)=>(p.set n.toNat (((fD g aP k).2:Int)+1),Out.normal))
    (λp=>[pt b4 (.cells [HY bp g.length]),pt b5 (.cells [iV (((fD g aP k).2:Int)+1)]),pt bp (.cells (p.map iV))]) (λ_ p=>p.length=g.length) (fD g aP k).1 hpk.1 (λk s x hs hx _=>by simp[hs])
    (amM (b3:=y.1) (b5:=y.2.2) (b4:=y.2.1) (s0:=(k:Int)) hG hll hin ⟨s6,s6⟩) (hb:=?_) (next:=?_) (jM:=λs x=>trivial)
   .intro j p n lo L B w0 hp hn;have hnr:=hrr n (aV hn);unfold Rg at hnr;obtain⟨n,rfl⟩:=dW hnr.1;refine go ?_;refine jN (o:=0+n*1) (cs:=p.map iV) (v:=iV (((fD g aP k).2:Int)+1)) (cs':=(p.set ((n:Int).toNat) (((fD g aP k).2:Int)+1)).map iV) (by rw[qo];simp) th ?_;refine go ?_;exact dy
   .intro r;rw[abM];dsimp only[List.cons_append,List.nil_append];refine go ?_;refine S9 (rs:=rs) (r:=r) (h:=?_);have e1:((A7 g aP (k:Nat)).foldl (λ(p:ae Int) (n:Int)=>p.set n.toNat (((fD g aP k).2:Int)+1)) (fD g aP k).1)=(fD g aP (k+1)).1:=by rw[hstep];rfl
    have e2:(((fD g aP k).2:Int)+1)=((fD g aP (k+1)).2:Int):=by rw[hstep];rfl
    rw[e1,e2];exact J4 (k+1,r::rs) AN tv
  .have hcf:c=false:=by simpa using h2
   have e:=same (λh=>by rw[hc',hcf]at h;cases h.1);exact gf
 have hkl:k=g.length:=s6
 subst hkl;refine go ?_;exact Ta (rs:=rs) bp (hv:=rfl) (hp:=trivial)
end Go.Proofs.YtgimfpcgbmpkhaaGreat
namespace Go.Proofs.YtgimfpcgbmpkhaaGreat
open Tryz (prog)
open Go.Ideal Gph
def amQ(m:Nat):zeros [.slice none 0 0] m=List.replicate m (.slice none 0 0):=JN _ _
structure amR where
 a:Option Addr
 n:Nat
 e:Int
variable{vg qh:ah}{g:ae (ae Int)}{aP:ae Bool}
def amS(hll:∀l∈g,l.length<2^63):
 fC prog 187 [vg,qh] [ay (aA aj) vg g,ay lG qh aP] (λy:amR=>.tuple ⟨[.slice y.a y.n y.n,iV y.e]⟩) (λy=>(y.e=0↔jW g/\aP.length=g.length)/\(y.e=0->y.n=(fD g aP g.length).2)/\(y.e≠0->y.n=0)):=by
 refine gB 187 λB w0=>?_;refine gF lG qh aP λa2 c2 e2=>?_;subst e2;refine go ?_;intro b12;refine gP b12 ?_;refine fA (ay (aA lG) (HY b12 1) [aP]) (λw hw=>SV (v:=.slice a2 aP.length c2) (hw _ s7) (hw _ s7)) ?_;refine fH (abJ (g:=g) (sets:=[aP]) hll s7) (next:=λr hr=>?_);refine aK ?_ ?_<;>intro h1
 .refine go ?_;exact gQ ⟨none,0,r⟩ ⟨⟨λh=>absurd h h1,λh=>absurd (hr.2 ⟨h.1,by simpa using h.2⟩) h1⟩,λh=>absurd h h1,λ_=>rfl⟩
 have hr0:r=0:=j6.1 h1;obtain⟨hG,hin⟩:=hr.1 hr0;have hin:aP.length=g.length:=by simpa using hin
 have hlen:=hG.len;have hpk:=OT g aP g.length;refine gC (abN (g:=g) (aP:=aP) hG hll hin) λbp _=>?_;refine go ?_;refine qA (fD g aP g.length).2 ⟨s6,s6,s6⟩ λbl=>?_;rw[amQ];refine ajy aj (h:=?_);refine gZ (uJ (b:=bp) (f:=0) (c:=g.length) (xs:=(fD g aP g.length).1)) ?_;rw[hpk.1];refine go ?_;refine dL (λx=>g.length - x.1) (λx:Nat×ae (ae Int)=>[(27,iV (x.1:Int))]) (λx=>[Oi aj bl x.2]) (λ_=>[])
  (λx=>x.1<=g.length/\x.2.length=(fD g aP g.length).2/\∀xs∈x.2,xs.length<=x.1) (0,List.replicate (fD g aP g.length).2 []) ⟨bI _,s7,λxs hx=>by rw[(List.mem_replicate.1 hx).2];simp⟩ (body:=?_)
 rintro⟨k,xss⟩ ⟨hk,hxl,hxs⟩;dsimp only at hk hxl hxs⊢;refine aK ?_ ?_<;>intro h2
 .have hkp:k<(fD g aP g.length).1.length:=by omega
  refine go ?_;intro _ _ p hp;have hpr:=hpk.2.2 p (aV hp);refine aK ?_ ?_<;>intro h3
  .obtain⟨p,rfl⟩:=dW hpr.1;have hp1:((p:Int) - 1).toNat<xss.length:=by omega
   refine go ?_;refine ajv aj (b:=bl) (xss:=xss) (bN hp1) (h:=λvs v hvl hv=>?_);have hvk:=hxs _ (rG hp1);refine oN (o:=0+((p:Int) - 1).toNat*1) (cs:=vs) v (by rw[gq,lU];exact hv) ?_;refine go ?_;intro b43;refine jy (xs:=xss[((p:Int) - 1).toNat]) aj (k:Int) () s6 (next:=λad=>?_);refine go ?_;refine jN (o:=0+((p:Int) - 1).toNat*1) (cs:=vs) (v:=.slice ad (xss[((p:Int) - 1).toNat].length+1) (xss[((p:Int) - 1).toNat].length+1)) (cs':=vs.set ((p:Int) - 1).toNat (.slice ad (xss[((p:Int) - 1).toNat].length+1) (xss[((p:Int) - 1).toNat].length+1))) (by rw[gq,lU]) s6 ?_;refine ajx aj (b:=bl) (xss:=xss) (vs:=vs) (k:=((p:Int) - 1).toNat) (xs:=xss[((p:Int) - 1).toNat]++[(k:Int)]) hvl hp1 (h:=?_);refine go ?_;refine aW (k+1,xss.set ((p:Int) - 1).toNat (xss[((p:Int) - 1).toNat]++[(k:Int)])) AN ⟨by show k+1<=_;omega,by show(xss.set _ _).length=_;rw[lu];exact hxl,λxs hx=>?_⟩;rcases List.mem_or_eq_of_mem_set hx with hx|rfl
   .have:=hxs xs hx;show _<=k+1;omega
   .show _<=k+1;rw[fu,DZ];omega
  .refine go ?_;exact aW (k+1,xss) AN ⟨by show k+1<=_;omega,hxl,λxs hx=>by have:=hxs xs hx;show _<=k+1;omega⟩
 refine go ?_;exact gQ ⟨some ⟨bl,0,some 0⟩,(fD g aP g.length).2,0⟩ ⟨⟨λ_=>⟨hG,hin⟩,λ_=>rfl⟩,λ_=>rfl,λh=>absurd rfl h⟩
def amU(hll:∀l∈g,l.length<2^63):
 fC prog 188 [vg,qh] [ay (aA aj) vg g,ay lG qh aP] (λy:Bool×Int=>.tuple ⟨[.bool y.1,iV y.2]⟩) (λy=>(y.2=0↔jW g/\aP.length=g.length)/\(y.2=0->y.1=G5 g aP)/\(y.2≠0->y.1=false)):=by
 refine gB 188 λB w0=>?_;refine gF lG qh aP λa2 c2 e2=>?_;subst e2;refine go ?_;intro b12;refine gP b12 ?_;refine fA (ay (aA lG) (HY b12 1) [aP]) (λw hw=>SV (v:=.slice a2 aP.length c2) (hw _ s7) (hw _ s7)) ?_;refine fH (abJ (g:=g) (sets:=[aP]) hll s7) (next:=λr hr=>?_);refine aK ?_ ?_<;>intro h1
 .refine go ?_;exact gQ (false,r) ⟨⟨λh=>absurd h h1,λh=>absurd (hr.2 ⟨h.1,by simpa using h.2⟩) h1⟩,λh=>absurd h h1,λ_=>rfl⟩
 have hr0:r=0:=j6.1 h1;obtain⟨hG,hin⟩:=hr.1 hr0;have hin:aP.length=g.length:=by simpa using hin
 have hlen:=hG.len;refine gL (λk=>g.length - k) (λk:Nat=>[(23,iV (k:Int)),(6,iV (wh aP k:Int))]) (λk=>k<=g.length/\A9 g aP k) 0 ⟨bI _,λi hi=>by omega⟩ ?_;rintro k ⟨hk,hdg⟩;have hsz:=akY aP k;have hsucc:=akX aP k;refine aK ?_ ?_<;>intro h2
 .refine gX (aA aj) (xs:=g) λ_ _ l (vl:ah) hl=>?_;have hl1:=hll l (aV hl);have hgd:g.getD k []=l:=by rw[DV,hl];rfl
  refine go ?_;intro _ _ c hc;have hc':dU aP (k:Nat)=c:=by unfold dU;rw[fI,DV,hc];rfl
  rw[hc']at hsucc;refine go ?_;cases c with
  |false=>
   refine go ?_;refine aW (k+1) s6 ⟨s6,λi hi hii=>?_⟩ (hl:=⟨rfl,by rw[hsucc];rfl,ur⟩);by_cases e:i=k
   .subst e;rw[hc']at hii;cases hii
   .exact hdg i s6 hii
  |true=>
   refine gL (λj=>l.length - j) (λj:Nat=>[(37,iV (j:Int)),(9,iV (A8 aP (l.take j):Int))]) (λj=>j<=l.length) 0 (bI _) ?_;intro j hj;refine aK ?_ ?_<;>intro h3
   .refine go ?_;intro _ _ n hn;have hnr:=hG.ok k l hl j n hn;obtain⟨n,rfl⟩:=dW hnr.1;refine go ?_;intro _ _ d hd;have hd':dU aP (n:Nat)=d:=by unfold dU;rw[fI,DV,hd];rfl
    have hstep:A8 aP (l.take (j+1))=A8 aP (l.take j)+if d then 1 else 0:=by
     rw[A8,take_one hn,ze,fu,<- A8];congr 1;simp only[FH,List.filter_nil,hd'];split<;>rfl
    have hdl:A8 aP (l.take j)<=j:=by
     have:=zh (dU aP) (l.take j);rw[gW]at this;unfold A8;omega
    refine go ?_;cases d with
    |false=>
     exact js
    |true=>
     exact js
   have hjl:j=l.length:=s6
   subst hjl;rw[dK];refine aK ?_ ?_<;>intro h4
   .refine go ?_;refine gQ (false,0) ⟨⟨λ_=>⟨hG,hin⟩,λ_=>rfl⟩,λ_=>?_,λh=>absurd rfl h⟩;refine(aax λh=>h4 ?_).symm;have:=h.1 k s6 hc';rw[hgd]at this;rw[this];rfl
   refine go ?_;refine aW (k+1) s6 ⟨s6,λi hi hii=>?_⟩ (hl:=⟨rfl,by rw[hsucc];rfl,ur⟩);by_cases e:i=k
   .subst e;rw[hgd];omega
   .exact hdg i s6 hii
 have hkl:k=g.length:=s6
 subst hkl;refine gC (abN (g:=g) (aP:=aP) hG hll hin) λbp _=>?_;refine gH ?_ ?_<;>intro h5
 .refine go ?_;refine gQ (false,0) ⟨⟨λ_=>⟨hG,hin⟩,λ_=>rfl⟩,λ_=>?_,λh=>absurd rfl h⟩;exact(aax λh=>by have:=h.2.1;omega).symm
 refine go ?_;refine gQ (decide (((fD g aP g.length).2:Int)=1),0) ⟨⟨λ_=>⟨hG,hin⟩,λ_=>rfl⟩,λ_=>?_,λh=>absurd rfl h⟩;rw[wM,lV,OU];exact⟨λh=>⟨hdg,s6,s6⟩,λh=>by have:=h.2.2;omega⟩
end Go.Proofs.YtgimfpcgbmpkhaaGreat
namespace Go.Proofs.YtgimfpcgbmpkhaaGreat
open Tryz (prog)
open Go.Ideal Gph
def nS(grid:ae Int)(set:Nat)(cells:ae Int):ae Bool:=cells.foldl (λm c=>m.set c.toNat (set.testBit (sy grid c))) (List.replicate grid.length false)
def abO(grid:ae Int)(set:Nat)(cells:ae Int):(nS grid set cells).length=grid.length:=by
 have:∀(cells:ae Int) (m:ae Bool),(cells.foldl (λm c=>m.set c.toNat (set.testBit (sy grid c))) m).length=m.length:=by
  intro cells;induction cells with
  |nil=>intro m;rfl
  |cons c cells ih=>intro m;rw[vI,ih,lu]
 rw[nS,this,zg]
variable{grid cells:ae Int}{set:Nat}
def amV{k:Nat}{c:Int}(h:cells[k]? =some c):nS grid set (cells.take (k+1))=(nS grid set (cells.take k)).set c.toNat (set.testBit (sy grid c)):=by
 rw[nS,take_one h,vJ];rfl
noncomputable def yJ(aH:ae (ae Int))(mk:ae Bool)(loop:Bool):Bool:=if loop=true/\(fD aH mk aH.length).2≠0 then G5 aH mk else decide ((fD aH mk aH.length).2<=1)
variable{vg:ah}
def amW{b6 b8 b11 bm:Nat}{m:ae Bool}{c:Nat}(hg:Bh grid)(hc:c<grid.length)(hm:m.length=grid.length)(hs:set<2^63):
 aY prog (.func 186) [iV (c:Int)] [ptr' b8,ptr' b6,ptr' b11] [pt bm (.cells (m.map .bool))] [aX b8 0 [iV (set:Int)],aX b6 0 [vg],aX b11 0 [HY bm grid.length],ay aj vg grid]
  (λ_:Unit=>.tuple ⟨[]⟩) (λ_=>[pt bm (.cells ((m.set c (set.testBit (sy grid c))).map .bool))]) (λ_=>[]) (λ_=>True):=by
 refine gB 186 λB w0=>?_;refine go ?_;intro _ _ x hx;have sV:=hg.jB x (aV hx);obtain⟨x,rfl⟩:=dW sV.1;refine fH (Hz (set:=set) (jB:=x) hs s6) (next:=λ_ _=>?_);refine go ?_;refine jN (o:=0+c*1) (cs:=m.map .bool) (v:=.bool (set.testBit x)) (cs':=(m.set c (set.testBit (sy grid c))).map .bool) (by rw[qo,HV hx];simp) th ?_;exact dH
def abP{vn vc:ah}{aH:ae (ae Int)}{loop:Bool}(hG:jW aH)(hll:∀l∈aH,l.length<2^63)(hgl:grid.length=aH.length)(hg:Bh grid)(hc:Bi grid cells)(hs:set<2^63):
 dO prog 104 [vn,vg,vc,iV (set:Int),.bool loop] [ay (aA aj) vn aH,ay aj vg grid,ay aj vc cells] (.bool (yJ aH (nS grid set cells) loop)):=by
 refine gB 104 λB w0=>?_;have hgn:=hG.len;have hcl:=hc.len;refine gF aj vg grid λa2 c2 e2=>?_;subst e2;refine go ?_;intro b6 b8;refine gP b6 ?_;refine gP b8 ?_;refine go ?_;refine qA grid.length ⟨s6,s6,s6⟩ λbm=>?_;rw[abK];refine go ?_;intro b11;refine go ?_;refine gP b11 ?_;refine go ?_;refine dL (λk=>cells.length - k) (λk:Nat=>[(25,iV (k:Int))]) (λk=>[pt bm (.cells ((nS grid set (cells.take k)).map .bool))]) (λ_=>[]) (λk=>k<=cells.length) 0 (bI _)
  (hk:=tc) (body:=?_)
 intro k hk;have hml:=abO grid set (cells.take k);refine aK ?_ ?_<;>intro h1
 .refine go ?_;intro _ _ c hck;have hcc:=hc.cell c (aV hck);have hmt:=amV (grid:=grid) (set:=set) hck;obtain⟨c,rfl⟩:=dW hcc.1;rw[fI]at hmt;refine gC (amW (b6:=b6) (b8:=b8) (b11:=b11) (bm:=bm) (set:=set) (m:=nS grid set (cells.take k)) (c:=c) hg s6 hml hs) λ_ _=>?_;rw[<- hmt];refine go ?_;exact aW (k+1) s6 s6
 have hkl:k=cells.length:=s6
 subst hkl;rw[dK]at hml⊢;refine gZ (SC (b:=bm) (f:=0) (c:=grid.length) (xs:=nS grid set cells)) ?_;rw[hml];refine gC (amS (g:=aH) (aP:=nS grid set cells) hll) λy hy=>?_;obtain⟨a,n,e⟩:=y;have he:e=0:=hy.1.2 ⟨hG,by rw[hml,hgl]⟩;subst he;have hn:=hy.2.1 rfl;dsimp only at hn;cases loop with
 |false=>
  refine aZ ?_;rw[yJ,if_neg s7,<- hn];exact mm
 |true=>
  refine aK ?_ ?_<;>intro h2
  .have h2:(n:Int)=0:=h2;refine aZ ?_;rw[yJ,if_neg (by rw[<- hn];exact λh=>h.2 s6),<- hn];exact mm
  have h2:¬(n:Int)=0:=h2;refine gC (amU (g:=aH) (aP:=nS grid set cells) hll) λz hz=>?_;obtain⟨r,e⟩:=z;have he:e=0:=hz.1.2 ⟨hG,by rw[hml,hgl]⟩;subst he;have hr:=hz.2.1 rfl;dsimp only at hr;subst hr;refine aZ ?_;rw[yJ,if_pos ⟨rfl,by rw[<- hn];omega⟩];rfl
end Go.Proofs.YtgimfpcgbmpkhaaGreat
namespace Go.Proofs.YtgimfpcgbmpkhaaGreat
open Tryz (prog)
open Go.Ideal Gph
def qH:Enc rZ:=⟨9,ah×ah,λc y=>[iV c.kind,y.1,iV c.set,iV c.other,iV c.lo,iV c.hi,y.2,iV c.rule,iV c.at_],λc y=>[ay aj y.1 c.cells,ay aj y.2 c.runs],λ_ _=>rfl⟩
abbrev yK(q:Kn)(vv vn vc:ah):ae ah:=[iV q.cells,iV q.symbols,vv,vn,vc]
structure amX(c:rZ):Prop where
 cells:c.cells.length<2^63
 runs:c.runs.length<2^63
def amY{b4:Nat}{sm x:Int}:KP prog (.func 121) [] [ptr' b4] (iV x) [aX b4 0 [iV sm]] (decide (x<0\/sm<=x)):=by
 refine gB 121 λB w0=>?_;refine gH ?_ ?_<;>intro h1
 .refine aZ ?_;rw[show decide (x<0\/sm<=x)=decide (sm<=x)from nZ.2 ⟨λh=>h.elim (λh=>absurd h h1) id,.inr⟩];rfl
 refine aZ ?_;rw[eB (.inl h1)];rfl
def Fin(cells symbols:Int)(grid:ae Int):Prop:=(grid.length:Int)=cells/\∀s∈grid,0<=s/\s<symbols
def amZ{vg:ah}{cells symbols:Int}{grid:ae Int}(hl:grid.length<2^63):
 fC prog 33 [iV cells,iV symbols,vg] [ay aj vg grid] (λb:Bool=>.bool b) (λb=>(b=true↔Fin cells symbols grid)):=by
 refine gB 33 λB w0=>?_;refine go ?_;intro b4;refine gP b4 ?_;refine gH ?_ ?_<;>intro h1
 .refine go ?_;exact gQ false ⟨(λh=>by cases h),λh=>absurd h.1 h1⟩
 refine gC (UF (p:=λx=>decide (x<0\/symbols<=x)) hl (λx _=>amY (b4:=b4) (sm:=symbols))) λ_ _=>?_;refine go ?_;refine gQ (!grid.any λx=>decide (x<0\/symbols<=x)) ?_;rw[List.not_any_eq_all_not];simp only[jU,Md,decide_eq_false_iff_not,not_or,Int.not_lt,Int.not_le];exact⟨λh=>⟨h1,h⟩,λh=>h.2⟩
structure au2(q:Kn):Prop where
 cells:1<=q.cells/\q.cells<=256
 symbols:1<=q.symbols/\q.symbols<=16
 PG:(q.values.length:Int)=q.symbols
 vals:∀v∈q.values,0<=v/\v<=99
 tT:(q.aH.length:Int)=q.cells
 au3:jW q.aH
 many:q.cons.length<=4096
 fine:∀c∈q.cons,TM q.cells q.symbols c
structure au4(q:Kn):Prop where
 values:q.values.length<2^63
 aH:∀l∈q.aH,l.length<2^63
 cons:q.cons.length<2^63
 con:∀c∈q.cons,amX c
structure au6(q:Kn)(c:rZ)(grid:List Int):Prop where
 gr:Bh grid
 ce:Bi grid c.cells
 vs:PE q.values grid
 st:0<=c.set/\c.set<65537
 ot:0<=c.other/\c.other<65537
open Go.Ideal Kd
noncomputable def abQ:iJ:=⟨2,[(.tmp 0)],(.seq (kO [kS 0 (.jC (.const vS))]) (.seq (kO [⟨⟨(some 1),none,(.Ah 9 8 [vE,vE,vE,vE,vE,vE,vE,vE] [⟨0,⟨1,(.const (.string ⟨⟨[99,101,108,108,115]⟩⟩))⟩⟩,⟨1,⟨1,(.const (.string ⟨⟨[114,111,119,115]⟩⟩))⟩⟩,⟨2,⟨1,(.const (.string ⟨⟨[99,111,108,117,109,110,115]⟩⟩))⟩⟩,⟨3,⟨1,(.const (.string ⟨⟨[100,105,97,103,111,110,97,108,115]⟩⟩))⟩⟩,⟨4,⟨1,(.const (.string ⟨⟨[97,114,111,117,110,100]⟩⟩))⟩⟩,⟨5,⟨1,(.const (.string ⟨⟨[110,101,97,114]⟩⟩))⟩⟩,⟨6,⟨1,(.const (.string ⟨⟨[112,97,105,114,115]⟩⟩))⟩⟩,⟨7,⟨1,(.const (.string ⟨⟨[97,108,108]⟩⟩))⟩⟩])⟩,[]⟩,kS 0 (.jC 1)]) .ret))⟩
def am0:ng prog 276=some abQ:=s8
abbrev jd:ByteArray->ah:=λs=>.string s
def wD:rY prog 9 jd:=ajF s8
abbrev sw(e:Int):ae PanicEntry:=[{v:=.iface 39 (iV e),recovered:=false}]
def abR{x:nQ}:dO prog 272 [.agg ⟨[.string x.name,iV x.value]⟩] [] (.string x.name):=by
 refine gB 272 λB w0=>?_;refine go ?_;intro b;exact dH
def abS{x:ru}{v:ah}:dO prog 274 [.agg ⟨[.string x.name,v]⟩] [] (.string x.name):=by
 refine gB 274 λB w0=>?_;refine go ?_;intro b;exact dH
def abT{x:jA}:dO prog 279 [.agg ⟨[.string x.name,.string x.on,iV x.family,iV x.type,iV x.lo,iV x.hi]⟩] [] (.string x.name):=by
 refine gB 279 λB w0=>?_;refine go ?_;intro b;exact dH
def abU{x:bF}{v1 v2:ah}:dO prog 283 [.agg ⟨jf x v1 v2⟩] [] (.string x.name):=by
 refine gB 283 λB w0=>?_;refine go ?_;intro b;exact dH
def abV{s:ByteArray}:dO prog 277 [.string s] [] (.string s):=by
 refine gB 277 λB w0=>?_;exact dH
def KS{P:Program}{B:ae Nat}{w0:Wd}{kl kl':ae OA}{F:ae aI}{K:KO}{ds:ae Tmp}{rest:ae bV}{n:Nat}{l:qr}{D:ae Deferred}{pm:az FrameMode}{ro:az Nat}{d:Nat}{g:az (Tmp×Bool)}
 {α:Type} [DecidableEq α] {bH:α->ah} {kt:aM} {zero:ah} {m k:aB} {b:Nat} {aC:ae (α×ah)} (hk:rY P kt bH) (a:α)
 (hit:∀v,dM a aC=some v->a∈aC.map (·.1)->R (λh=>aO P ds rest (act n ((d,.tuple ⟨[v,.bool true]⟩)::l) D pm ro) h K) B w0 kl F)
 (miss:a∉aC.map (·.1)->R (λh=>aO P ds rest (act n ((d,.tuple ⟨[zero,.bool false]⟩)::l) D pm ro) h K) B w0 kl F)
 (hm:ev l m=.map (some b):=by rfl) (ha:ev l k=bH a:=by conv=>lhs;whnf) (hs:aD (ic bH b aC) kl kl':=by exact dG) (hn:Nat.blt d n=true:=by rfl) (hg:bJ l g=true:=by rfl):
 R (λh=>aO P ds (⟨⟨some d,g,.lookup kt zero m k true⟩,[]⟩::rest) (act n l D pm ro) h K) B w0 kl F:=by
 refine EI (ok:=true) hk a ?_ hm ha hs hn hg;by_cases h:a∈aC.map (·.1)
 .exact kp
 .exact mz
variable{aC:ae (ByteArray×ah)}{start:Nat}
def tV{α:Type}{xs:ae α}{nm:α->ByteArray}{k:Nat}{x:α}(hx:xs[k]? =some x):
 (aC++gz ((xs.take k).map nm) start).map (·.1)=aC.map (·.1)++(xs.take k).map nm/\gz ((xs.take (k+1)).map nm) start=gz ((xs.take k).map nm) start++[(nm x,iV ((start:Int)+(k:Int)))]:=by
 have hk:=(bz.1 hx).1;refine⟨by rw[bZ,xC],?_⟩;rw[rP,hx,bZ,TN];congr 1;rw[bi,gW,Ae s6];simp[gz]
variable{b:Nat}{vs:ah}
def am1{xs:ae ByteArray}(hl:xs.length<=4096)(hs:start<=4096)(hnd:(aC.map (·.1)).Nodup):
 rX prog (.func 275) [vs,iV (start:Int),.func (.func 277) #[] #[],.map (some b)] [] [ic jd b aC] [ay ko vs xs] (λy:Bool×ae ByteArray=>if y.1=true then .ok (.map (some b))else .iy (sw 161))
  (λy=>[ic jd b (aC++gz y.2 start)]) (λ_=>[]) (λy=>(y.1=true->y.2=xs/\(aC.map (·.1)++xs).Nodup)/\(y.1=false->¬(aC.map (·.1)++xs).Nodup)):=by
 let nm:ByteArray->ByteArray:=λs=>s
 have hmap:∀l:ae ByteArray,l.map nm=l:=λl=>List.map_id' l;suffices h:rX prog (.func 275) [vs,iV (start:Int),.func (.func 277) #[] #[],.map (some b)] [] [ic jd b aC] [ay ko vs xs] (λy:Bool×ae ByteArray=>if y.1=true then .ok (.map (some b))else .iy (sw 161))
  (λy=>[ic jd b (aC++gz y.2 start)]) (λ_=>[]) (λy=>(y.1=true->y.2=(xs.map nm)/\(aC.map (·.1)++xs.map nm).Nodup)/\(y.1=false->¬(aC.map (·.1)++xs.map nm).Nodup))by
  rw[hmap]at h;exact h
 refine zH _ (pY 275) λB w0=>?_;refine go ?_;rw[show ic jd b aC=ic jd b (aC++gz ((xs.take 0).map nm) start)by simp[gz]];refine dL (λk=>xs.length - k) (λk:Nat=>[(15,iV (k:Int))]) (λk=>[ic jd b (aC++gz ((xs.take k).map nm) start)]) (λ_=>[]) (λk=>k<=xs.length/\(aC.map (·.1)++(xs.take k).map nm).Nodup) 0 ⟨bI _,wx⟩ (body:=?_);rintro k ⟨hk,hall⟩;refine aK ?_ ?_<;>intro h1
 .refine gX ko λ_ _ x (y:Unit) hx=>?_;refine gC (abV (s:=x)) λ_ _=>?_;refine go ?_;refine KS wD (nm x) (λv hv hm=>?_) (λhm=>?_)
  .exact cF
  refine gC (abV (s:=x)) λ_ _=>?_;refine go ?_;refine vX wD (nm x) (aC:=aC++gz ((xs.take k).map nm) start) (v:=iV ((start:Int)+(k:Int))) ?_;have hm2:=hm;rw[(tV hx).1]at hm2;rw[G6 hm,fo,<- (tV (aC:=aC) hx).2];refine go ?_;refine aW (k+1) s6 ⟨s6,?_⟩;rw[rP,hx,bZ,<- fo,j5];refine⟨hall,s7,λa ha c hc=>?_⟩;have:c=nm x:=wA
  exact jz
 have hkl:k=xs.length:=s6
 subst hkl;rw[dK]at hall;rw[dK];refine go ?_;exact CJ (true,xs.map nm) (hv:=rfl) (hp:=⟨λ_=>⟨rfl,hall⟩,λh=>by cases h⟩)
def am2{xs:ae nQ}(hl:xs.length<=4096)(hs:start<=4096)(hnd:(aC.map (·.1)).Nodup):
 rX prog (.func 271) [vs,iV (start:Int),.func (.func 272) #[] #[],.map (some b)] [] [ic jd b aC] [ay jO vs xs] (λy:Bool×ae ByteArray=>if y.1=true then .ok (.map (some b))else .iy (sw 161))
  (λy=>[ic jd b (aC++gz y.2 start)]) (λ_=>[]) (λy=>(y.1=true->y.2=(xs.map nQ.name)/\(aC.map (·.1)++xs.map nQ.name).Nodup)/\(y.1=false->¬(aC.map (·.1)++xs.map nQ.name).Nodup)):=by
 let nm:nQ->ByteArray:=nQ.name
 refine zH _ (pY 271) λB w0=>?_;refine go ?_;rw[show ic jd b aC=ic jd b (aC++gz ((xs.take 0).map nm) start)by simp[gz]];refine dL (λk=>xs.length - k) (λk:Nat=>[(15,iV (k:Int))]) (λk=>[ic jd b (aC++gz ((xs.take k).map nm) start)]) (λ_=>[]) (λk=>k<=xs.length/\(aC.map (·.1)++(xs.take k).map nm).Nodup) 0 ⟨bI _,wx⟩ (body:=?_);rintro k ⟨hk,hall⟩;refine aK ?_ ?_<;>intro h1
 .refine gX jO λ_ _ x y hx=>?_;refine go ?_;intro b10;refine gC (abR (x:=x)) λ_ _=>?_;refine go ?_;refine KS wD (nm x) (λv hv hm=>?_) (λhm=>?_)
  .exact cF
  refine gC (abR (x:=x)) λ_ _=>?_;refine go ?_;refine vX wD (nm x) (aC:=aC++gz ((xs.take k).map nm) start) (v:=iV ((start:Int)+(k:Int))) ?_;have hm2:=hm;rw[(tV hx).1]at hm2;rw[G6 hm,fo,<- (tV (aC:=aC) hx).2];refine go ?_;refine aW (k+1) s6 ⟨s6,?_⟩;rw[rP,hx,bZ,<- fo,j5];refine⟨hall,s7,λa ha c hc=>?_⟩;have:c=nm x:=wA
  exact jz
 have hkl:k=xs.length:=s6
 subst hkl;rw[dK]at hall;rw[dK];refine go ?_;exact CJ (true,xs.map nm) (hv:=rfl) (hp:=⟨λ_=>⟨rfl,hall⟩,λh=>by cases h⟩)
def am3{xs:ae ru}(hl:xs.length<=4096)(hs:start<=4096)(hnd:(aC.map (·.1)).Nodup):
 rX prog (.func 273) [vs,iV (start:Int),.func (.func 274) #[] #[],.map (some b)] [] [ic jd b aC] [ay lJ vs xs] (λy:Bool×ae ByteArray=>if y.1=true then .ok (.map (some b))else .iy (sw 161))
  (λy=>[ic jd b (aC++gz y.2 start)]) (λ_=>[]) (λy=>(y.1=true->y.2=(xs.map ru.name)/\(aC.map (·.1)++xs.map ru.name).Nodup)/\(y.1=false->¬(aC.map (·.1)++xs.map ru.name).Nodup)):=by
 let nm:ru->ByteArray:=ru.name
 refine zH _ (pY 273) λB w0=>?_;refine go ?_;rw[show ic jd b aC=ic jd b (aC++gz ((xs.take 0).map nm) start)by simp[gz]];refine dL (λk=>xs.length - k) (λk:Nat=>[(15,iV (k:Int))]) (λk=>[ic jd b (aC++gz ((xs.take k).map nm) start)]) (λ_=>[]) (λk=>k<=xs.length/\(aC.map (·.1)++(xs.take k).map nm).Nodup) 0 ⟨bI _,wx⟩ (body:=?_);rintro k ⟨hk,hall⟩;refine aK ?_ ?_<;>intro h1
 .refine gX lJ λ_ _ x y hx=>?_;refine go ?_;intro b10;refine gC (abS (x:=x) (v:=y)) λ_ _=>?_;refine go ?_;refine KS wD (nm x) (λv hv hm=>?_) (λhm=>?_)
  .exact cF
  refine gC (abS (x:=x) (v:=y)) λ_ _=>?_;refine go ?_;refine vX wD (nm x) (aC:=aC++gz ((xs.take k).map nm) start) (v:=iV ((start:Int)+(k:Int))) ?_;have hm2:=hm;rw[(tV hx).1]at hm2;rw[G6 hm,fo,<- (tV (aC:=aC) hx).2];refine go ?_;refine aW (k+1) s6 ⟨s6,?_⟩;rw[rP,hx,bZ,<- fo,j5];refine⟨hall,s7,λa ha c hc=>?_⟩;have:c=nm x:=wA
  exact jz
 have hkl:k=xs.length:=s6
 subst hkl;rw[dK]at hall;rw[dK];refine go ?_;exact CJ (true,xs.map nm) (hv:=rfl) (hp:=⟨λ_=>⟨rfl,hall⟩,λh=>by cases h⟩)
def am4{xs:ae jA}(hl:xs.length<=4096)(hs:start<=4096)(hnd:(aC.map (·.1)).Nodup):
 rX prog (.func 278) [vs,iV (start:Int),.func (.func 279) #[] #[],.map (some b)] [] [ic jd b aC] [ay eP vs xs] (λy:Bool×ae ByteArray=>if y.1=true then .ok (.map (some b))else .iy (sw 161))
  (λy=>[ic jd b (aC++gz y.2 start)]) (λ_=>[]) (λy=>(y.1=true->y.2=(xs.map jA.name)/\(aC.map (·.1)++xs.map jA.name).Nodup)/\(y.1=false->¬(aC.map (·.1)++xs.map jA.name).Nodup)):=by
 let nm:jA->ByteArray:=jA.name
 refine zH _ (pY 278) λB w0=>?_;refine go ?_;rw[show ic jd b aC=ic jd b (aC++gz ((xs.take 0).map nm) start)by simp[gz]];refine dL (λk=>xs.length - k) (λk:Nat=>[(15,iV (k:Int))]) (λk=>[ic jd b (aC++gz ((xs.take k).map nm) start)]) (λ_=>[]) (λk=>k<=xs.length/\(aC.map (·.1)++(xs.take k).map nm).Nodup) 0 ⟨bI _,wx⟩ (body:=?_);rintro k ⟨hk,hall⟩;refine aK ?_ ?_<;>intro h1
 .refine gX eP λ_ _ x y hx=>?_;refine go ?_;intro b10;refine gC (abT (x:=x)) λ_ _=>?_;refine go ?_;refine KS wD (nm x) (λv hv hm=>?_) (λhm=>?_)
  .exact cF
  refine gC (abT (x:=x)) λ_ _=>?_;refine go ?_;refine vX wD (nm x) (aC:=aC++gz ((xs.take k).map nm) start) (v:=iV ((start:Int)+(k:Int))) ?_;have hm2:=hm;rw[(tV hx).1]at hm2;rw[G6 hm,fo,<- (tV (aC:=aC) hx).2];refine go ?_;refine aW (k+1) s6 ⟨s6,?_⟩;rw[rP,hx,bZ,<- fo,j5];refine⟨hall,s7,λa ha c hc=>?_⟩;have:c=nm x:=wA
  exact jz
 have hkl:k=xs.length:=s6
 subst hkl;rw[dK]at hall;rw[dK];refine go ?_;exact CJ (true,xs.map nm) (hv:=rfl) (hp:=⟨λ_=>⟨rfl,hall⟩,λh=>by cases h⟩)
def am5{xs:ae bF}(hl:xs.length<=4096)(hs:start<=4096)(hnd:(aC.map (·.1)).Nodup):
 rX prog (.func 282) [vs,iV (start:Int),.func (.func 283) #[] #[],.map (some b)] [] [ic jd b aC] [ay di vs xs] (λy:Bool×ae ByteArray=>if y.1=true then .ok (.map (some b))else .iy (sw 161))
  (λy=>[ic jd b (aC++gz y.2 start)]) (λ_=>[]) (λy=>(y.1=true->y.2=(xs.map bF.name)/\(aC.map (·.1)++xs.map bF.name).Nodup)/\(y.1=false->¬(aC.map (·.1)++xs.map bF.name).Nodup)):=by
 let nm:bF->ByteArray:=bF.name
 refine zH _ (pY 282) λB w0=>?_;refine go ?_;rw[show ic jd b aC=ic jd b (aC++gz ((xs.take 0).map nm) start)by simp[gz]];refine dL (λk=>xs.length - k) (λk:Nat=>[(15,iV (k:Int))]) (λk=>[ic jd b (aC++gz ((xs.take k).map nm) start)]) (λ_=>[]) (λk=>k<=xs.length/\(aC.map (·.1)++(xs.take k).map nm).Nodup) 0 ⟨bI _,wx⟩ (body:=?_);rintro k ⟨hk,hall⟩;refine aK ?_ ?_<;>intro h1
 .refine gX di λ_ _ x y hx=>?_;refine go ?_;intro b10;refine gC (abU (x:=x) (v1:=y.1) (v2:=y.2)) λ_ _=>?_;refine go ?_;refine KS wD (nm x) (λv hv hm=>?_) (λhm=>?_)
  .exact cF
  refine gC (abU (x:=x) (v1:=y.1) (v2:=y.2)) λ_ _=>?_;refine go ?_;refine vX wD (nm x) (aC:=aC++gz ((xs.take k).map nm) start) (v:=iV ((start:Int)+(k:Int))) ?_;have hm2:=hm;rw[(tV hx).1]at hm2;rw[G6 hm,fo,<- (tV (aC:=aC) hx).2];refine go ?_;refine aW (k+1) s6 ⟨s6,?_⟩;rw[rP,hx,bZ,<- fo,j5];refine⟨hall,s7,λa ha c hc=>?_⟩;have:c=nm x:=wA
  exact jz
 have hkl:k=xs.length:=s6
 subst hkl;rw[dK]at hall;rw[dK];refine go ?_;exact CJ (true,xs.map nm) (hv:=rfl) (hp:=⟨λ_=>⟨rfl,hall⟩,λh=>by cases h⟩)
end Go.Proofs.YtgimfpcgbmpkhaaGreat
namespace Go.Proofs.YtgimfpcgbmpkhaaGreat
open Tryz (prog)
open Go.Ideal Kd
noncomputable def UL:iJ:=⟨9,[],(.seq (kO [⟨⟨(some 3),none,.recover⟩,[]⟩,kS 2 (.jC 3)]) (.seq (kO [kM 4 2,kS 5 (.bin .neq 20 4 (.const .nilIface))]) (.cond 5 (kO [⟨⟨(some 6),none,(.build [vE,(iV 0),(iV 0),(iV 0),(iV 0),vS,vS,vS,vS,vS] [])⟩,[]⟩,kM 7 2,kS 8 (.Mr 39 (iV 0) false 7),kN (.store 10 0 6),kN (.store 1 1 8)]) .skip)))⟩
def abW:ng prog 270=some UL:=s8
section
variable {P:Program} {B:ae Nat} {w0:Wd} {kl kl':ae OA} {F:ae aI} {K:KO} {ds:ae Tmp} {rest:ae bV} {n:Nat} {l:qr} {D:ae Deferred} {pm:az FrameMode} {ro:az Nat} {d:Nat} {g:az (Tmp×Bool)}
variable{α:Type}
def abX[DecidableEq α]{bH:α->ah}{kt:aM}{zero:ah}{m k:aB}{b:Nat}{aC:ae (α×ah)}(hk:rY P kt bH)(a:α)
 (hit:∀v,dM a aC=some v->a∈aC.map (·.1)->R (λh=>aO P ds rest (act n ((d,.tuple ⟨[v,.bool true]⟩)::l) D pm ro) h K) B w0 kl F)
 (miss:a∉aC.map (·.1)->R (λh=>aO P ds rest (act n ((d,.tuple ⟨[zero,.bool false]⟩)::l) D pm ro) h K) B w0 kl F)
 (hm:ev l m=.map (some b):=by rfl) (ha:ev l k=bH a:=by conv=>lhs;whnf) (hf:AV bH b aC∈F:=by exact iN) (hn:Nat.blt d n=true:=by rfl) (hg:bJ l g=true:=by rfl):
 R (λh=>aO P ds (⟨⟨some d,g,.lookup kt zero m k true⟩,[]⟩::rest) (act n l D pm ro) h K) B w0 kl F:=by
 refine Tk (ok:=true) hk a ?_ hm ha hf hn hg;by_cases h:a∈aC.map (·.1)
 .exact kp
 .exact mz
def UM(E:Enc α){v:ah}{aF:ae (α×E.Y)}{Q:IH->Prop}(h0:aF=[]->∀c,v=.slice none 0 c->R Q B w0 kl F)(h1:aF=[]->∀i o f c,v=.slice (some ⟨i,o,some f⟩) 0 c->R Q B w0 kl F)
 (h2:0<aF.length->∀i o f c,v=.slice (some ⟨i,o,some f⟩) aF.length c->R Q B w0 kl F) (hf:vY E v aF∈F:=by exact iN):R Q B w0 kl F:=λw s=>by
 rcases s.facts _ hf with⟨e,a,c,hv,hg⟩|⟨i,o,f,c,cells,⟨hv,_⟩,_⟩
 .exact mj
 .by_cases hx:aF=[]
  .subst hx;exact h1 rfl i o f c hv w s
  .exact h2 (WZ.2 hx) i o f c hv w s
def UN(E:Enc α){Q:IH->Prop}(h:R Q B w0 (ar E (.slice none 0 0) []::kl) F):R Q B w0 kl F:=λw s=>by
 obtain⟨S,h1,h2,h3⟩:=s.own;exact h w ⟨s.agree,s.le,s.fF,⟨S,⟨[],S,.inl ⟨rfl,⟨none,rfl,trivial⟩,rfl⟩,h1,rfl⟩,h2,h3⟩,s.facts⟩
end
def am6:aY prog (.func 276) [] [] [] [] (λv:ah=>v) (λ_=>[]) (λv=>[ay ko v EM]) (λ_=>True):=by
 refine l7 abQ am0 λB w0=>?_;refine go ?_;intro b;refine go ?_;refine xz (b:=b) (m:=8) (f:=0) ko (aF:=EM.map λs=>(s,())) rfl (.inl rfl) ?_ (hk:=aD.here);refine Oy (E:=ko) ?_ (λw hw p hp f hf=>by cases hf);exact gQ (.slice (some ⟨b,0,some 0⟩) 8 8) trivial (hF:=.cons (fP _ (eX ..)) .nil)
variable{s:ByteArray}
def PI{b:Nat}{aC:ae (ByteArray×ah)}:
 rX prog (.func 281) [.map (some b),.string s] [] [] [AV jd b aC] (λy:az ah=>match y with|some v=>.ok v|none=>.iy (sw 160)) (λ_=>[]) (λ_=>[]) (λy=>y=dM s aC):=by
 refine zH _ (pY 281) λB w0=>?_;refine go ?_;refine abX wD s (λv hv hm=>?_) (λhm=>?_)
 .refine go ?_;exact CJ (some v) (hv:=rfl) (hp:=hv.symm)
 .refine go ?_;refine ED ?_;refine go ?_;exact CK none (hv:=rfl) (hp:=(wm hm).symm)
variable{eH l:ae ByteArray}
def am7{k:Nat}(h:l[k]? =some s):kI eH (l.take (k+1))=kI eH (l.take k)|||1<<<jY s eH:=by
 unfold kI;rw[rP,h,vJ];rfl
def abY{eH:ae ByteArray}(hs:eH.length<=16):∀(l:ae ByteArray) (m:Nat),(∀s∈l,s∈eH)->m<65536->l.foldl (λm s=>m|||1<<<jY s eH) m<65536
 |[],m,_,hm=>hm
 |s::l,m,h,hm=>by
  rw[vI];refine abY hs l _ (λx hx=>h x (fP _ hx)) ?_;have h1:=CU (h s (eX ..));have h2:1<<<jY s eH<2^16:=by
   exact r7
  exact QI (n:=16) hm h2
def abZ{b4 bs:Nat}{vl:ah}(hs:eH.length<=16)(hl:l.length<2^63):
 rX prog (.func 285) [vl] [ptr' b4] [] [aX b4 0 [.map (some bs)],AV jd bs (gz eH 0),ay ko vl l] (λy:Bool=>if y=true then .ok (iV (kI eH l:Int))else .iy (sw 160)) (λ_=>[]) (λ_=>[])
  (λy=>(y=true->∀s∈l,s∈eH)/\(y=false->¬∀s∈l,s∈eH)):=by
 refine zH _ (pY 285) λB w0=>?_;refine gL (λk=>l.length - k) (λk:Nat=>[(8,iV (k:Int)),(3,iV (kI eH (l.take k):Int))]) (λk=>k<=l.length/\∀s∈l.take k,s∈eH) 0 ⟨bI _,s7⟩ ?_;rintro k ⟨hk,hall⟩;refine aK ?_ ?_<;>intro h1
 .refine gX ko λ_ _ x (y:Unit) hx=>?_;refine go ?_;refine vW (PI (b:=bs) (s:=x) (aC:=gz eH 0)) (λy v hy e=>?_) (λy ch hy e=>?_)
  .have hm:x∈eH:=by
    by_cases h:x∈eH
    .exact h
    .exact j8
   rw[Bb hm]at hy;subst hy;injection e with e;subst e;have hp:=CU hm;have h2:1<<<jY x eH<2^16:=by
    exact r7
   have h3:=abY hs (l.take k) 0 hall s6;rw[gq];refine(dx rfl rfl (SS (a:=1) (b:=jY x eH) rfl rfl s6 s6)).h ?_;refine(dx rfl rfl (Zg (a:=kI eH (l.take k)) (b:=1<<<jY x eH) rfl rfl (Nat.lt_trans h3 s6) s6)).h ?_;refine go ?_;refine aW (k+1) s6 ⟨s6,λs hs'=>?_⟩ (hl:=⟨rfl,by rw[am7 hx];rfl,ur⟩);rw[rP,hx]at hs';rcases fU.1 hs' with h|h
   .exact hall s h
   .have:s=x:=by simpa using h
    rw[this];exact hm
  .refine go ?_;have hm:x∉eH:=by
    exact nc
   have hch:ch=sw 160:=by
    rw[wm yq]at hy;subst hy;injection e with e;exact e.symm
   subst hch;exact CK false (hv:=rfl) (hp:=⟨(λh=>by cases h),λ_ h=>hm (h x (aV hx))⟩)
 have hkl:k=l.length:=s6
 subst hkl;rw[dK]at hall⊢;refine go ?_;exact CJ true (hv:=rfl) (hp:=⟨λ_=>hall,λh=>by cases h⟩)
variable{v:ah}
def am8{aF:ae (jA×eP.Y)}(hl:aF.length<=4096):aY prog (.func 280) [v] [] [] [vY eP v aF] (λv':ah=>v') (λv'=>[ar eP v' aF]) (λ_=>[]) (λ_=>True):=by
 refine gB 280 λB w0=>?_;refine UM (v:=v) (aF:=aF) eP (λe c ev=>?_) (λe i o f c ev=>?_) (λhne i o f c ev=>?_)
 .subst e ev;refine go ?_;refine(dx rfl rfl (GK (e:=147) s8 rfl)).h ?_;refine go ?_;refine UN eP ?_;exact qS
 .subst e ev;refine go ?_;refine(dx rfl rfl (zK (e:=147) s8 rfl)).h ?_;refine go ?_;intro b;refine go ?_;refine J7 (b:=b) ?_;refine go ?_;refine xz (b:=b) (m:=0) (f:=0) eP (aF:=[]) rfl (.inl rfl) ?_ (hk:=aD.here);exact mN
 .subst ev;refine go ?_;refine(dx rfl rfl (zK (e:=147) s8 rfl)).h ?_;refine go ?_;intro b;refine go ?_;refine J8 (b:=b) eP aF hne s6 (λb'=>?_);refine go ?_;refine xz (b:=b') (m:=aF.length) (f:=eP.n) eP (aF:=aF) rfl (.inr rfl) ?_ (hk:=aD.here);exact gQ (.slice (some ⟨b',0,some eP.n⟩) aF.length aF.length) trivial
def am9{aF:ae (bF×di.Y)}(hl:aF.length<=4096):aY prog (.func 284) [v] [] [] [vY di v aF] (λv':ah=>v') (λv'=>[ar di v' aF]) (λ_=>[]) (λ_=>True):=by
 refine gB 284 λB w0=>?_;refine UM (v:=v) (aF:=aF) di (λe c ev=>?_) (λe i o f c ev=>?_) (λhne i o f c ev=>?_)
 .subst e ev;refine go ?_;refine(dx rfl rfl (GK (e:=90) s8 rfl)).h ?_;refine go ?_;refine UN di ?_;exact qS
 .subst e ev;refine go ?_;refine(dx rfl rfl (zK (e:=90) s8 rfl)).h ?_;refine go ?_;intro b;refine go ?_;refine J7 (b:=b) ?_;refine go ?_;refine xz (b:=b) (m:=0) (f:=0) di (aF:=[]) rfl (.inl rfl) ?_ (hk:=aD.here);exact mN
 .subst ev;refine go ?_;refine(dx rfl rfl (zK (e:=90) s8 rfl)).h ?_;refine go ?_;intro b;refine go ?_;refine J8 (b:=b) di aF hne s6 (λb'=>?_);refine go ?_;refine xz (b:=b') (m:=aF.length) (f:=di.n) di (aF:=aF) rfl (.inr rfl) ?_ (hk:=aD.here);exact gQ (.slice (some ⟨b',0,some di.n⟩) aF.length aF.length) trivial
end Go.Proofs.YtgimfpcgbmpkhaaGreat
namespace Go.Proofs.YtgimfpcgbmpkhaaGreat
open Tryz (prog)
open Go.Ideal Kd
noncomputable def PK:iJ:=⟨128,[(.pX 10 2),(.cell1 3)],(.seq (kO [kS 1 (.box 0 28),⟨⟨(some 2),none,(.new [vE,(iV 0),(iV 0),(iV 0),(iV 0),vS,vS,vS,vS,vS] 28)⟩,[]⟩,kS 3 (.new [(iV 0)] 39)]) (.seq (kO [kS 11 (.D5 (.func 270) [] [2,3]),kN (.dcall 11 [])]) (.seq (.seq (kO [kS 12 (.iw 6 1),kS 13 (.fG 12),kS 14 (.pV 13),kS 15 (.bin .gtr 3 14 (.const (iV 16)))]) (.cond 15 (.seq (kO [kS 16 (.sO 10 2),kN (.store 10 2 16),kN (.store 1 3 (.const (iV 2)))]) .ret) .skip)) (.seq (kO [kS 17 (.iw 6 1),kS 18 (.fG 17),⟨⟨(some 19),none,.zl⟩,[]⟩,kS 20 (kC 271 [18,(.const (iV 0)),(.func 272),19]),kS 4 (.new [(.map none)] 309),kN (.store 1 4 20)]) (.seq (.ops [21,22,23,24,25,26,5] [kS 21 (.iw 7 1),kS 22 (.fG 21),⟨⟨(some 24),none,.zl⟩,[]⟩,⟨⟨(some 23),none,(kC 276 [])⟩,[⟨(some 22),none,(.fG 21)⟩]⟩,⟨⟨(some 25),none,(kC 275 [23,(.const (iV 0)),(.func 277),24])⟩,[⟨(some 22),none,(.fG 21)⟩]⟩,kS 26 (kC 273 [22,(.const (iV 8)),(.func 274),25]),kS 5 (.jC 26)]) (.seq (kO [kS 27 (.iw 8 1),kS 28 (.fG 27),⟨⟨(some 29),none,.zl⟩,[]⟩,kS 30 (kC 278 [28,(.const (iV 0)),(.func 279),29]),kS 6 (.jC 30)]) (.seq (kO [kS 31 (.iw 8 1),kS 32 (.fG 31),kS 33 (kC 280 [32]),kS 34 (.iw 8 1),kN (.store 1 34 33)]) (.seq (.seq (kO [kS 35 (.iw 8 1),kS 36 (.fG 35),kS 37 (.pV 36),kS 38 (.mv (.const (iV 0)))]) (.block 0 (.loop (.seq (kO [kS 39 (.bin .lss 3 38 37)]) (.seq (.cond 39 .skip (.exit 0)) (.seq (.block 1 (.seq (kO [kM 40 38,kS 7 (.jC 40)]) (.ops [41,42,43,44,45,46,47,48,49,50,51,52,53] [kS 41 (.iw 8 1),kS 42 (.fG 41),kM 43 7,kM 44 5,kS 45 (.iw 8 1),kS 46 (.fG 45),kM 47 7,kS 48 (.jw 6 46 47),kS 49 (.iw 1 48),kS 50 (.fG 49),⟨⟨(some 51),none,(kC 281 [44,50])⟩,[⟨(some 42),none,(.fG 41)⟩]⟩,kS 52 (.jw 6 42 43),kS 53 (.iw 2 52),kN (.store 1 53 51)]))) (kO [kS 54 (.bin .add 3 38 (.const (iV 1))),kM 38 54]))))))) (.seq (kO [kS 55 (.iw 9 1),kS 56 (.fG 55),⟨⟨(some 57),none,.zl⟩,[]⟩,kS 58 (kC 282 [56,(.const (iV 0)),(.func 283),57])]) (.seq (kO [kS 59 (.iw 9 1),kS 60 (.fG 59),kS 61 (kC 284 [60]),kS 62 (.iw 9 1),kN (.store 1 62 61)]) (.seq (kO [kS 63 (.D5 (.func 285) [] [4]),kS 8 (.jC 63)]) (.seq (.seq (kO [kS 64 (.iw 9 1),kS 65 (.fG 64),kS 66 (.pV 65),kS 67 (.mv (.const (iV 0)))]) (.block 2 (.loop (.seq (kO [kS 68 (.bin .lss 3 67 66)]) (.seq (.cond 68 .skip (.exit 2)) (.seq (.block 3 (.seq (kO [kM 69 67,kS 9 (.jC 69)]) (.seq (kO [kS 70 (.iw 9 1),kS 71 (.fG 70),kM 72 9,kS 73 (.jw 12 71 72),kS 10 (.jC 73)]) (.seq (kO [kM 74 10,kM 75 10,kS 76 (.nI 74),kS 77 (.iw 3 76),kN (.store 1 77 (.const (iV 0))),kS 78 (.nI 75),kS 79 (.iw 11 78),kN (.store 1 79 (.const (iV (-1))))]) (.seq (.seq (kO [kM 80 10,kS 81 (.nI 80),kS 82 (.iw 1 81),kS 83 (.fG 82),⟨⟨(some 84),none,(.bin .neq 9 83 (.const vE))⟩,[]⟩]) (.cond 84 (kO [kM 85 10,kM 86 5,kM 87 10,kS 88 (.nI 87),kS 89 (.iw 1 88),kS 90 (.fG 89),kS 91 (kC 281 [86,90]),kS 92 (.nI 85),kS 93 (.iw 3 92),kN (.store 1 93 91)]) .skip)) (.seq (.ops [94,95,96,97,98,99,100,101,102,103,104,105,106,107,108,109,110,111] [kM 94 10,kM 95 10,kM 96 8,kM 97 10,kS 98 (.nI 97),kS 99 (.iw 4 98),kS 100 (.fG 99),kM 102 8,kM 103 10,kS 104 (.nI 103),kS 105 (.iw 5 104),kS 106 (.fG 105),⟨⟨(some 101),none,(.call 96 [100])⟩,[⟨(some 106),none,(.fG 105)⟩]⟩,kS 107 (.call 102 [106]),kS 108 (.nI 94),kS 109 (.iw 6 108),kN (.store 1 109 101),kS 110 (.nI 95),kS 111 (.iw 7 110),kN (.store 1 111 107)]) (.seq (kO [kM 112 10,kS 113 (.nI 112),kS 114 (.iw 10 113),kS 115 (.fG 114),⟨⟨(some 116),none,(.bin .neq 9 115 (.const vE))⟩,[]⟩]) (.cond 116 (kO [kM 117 10,kM 118 6,kM 119 10,kS 120 (.nI 119),kS 121 (.iw 10 120),kS 122 (.fG 121),kS 123 (kC 281 [118,122]),kS 124 (.nI 117),kS 125 (.iw 11 124),kN (.store 1 125 123)]) .skip)))))))) (kO [kS 126 (.bin .add 3 67 (.const (iV 1))),kM 67 126]))))))) (.seq (kO [kS 127 (.sO 10 1),kN (.store 10 2 127),kN (.store 1 3 (.const (iV 0)))]) .ret)))))))))))))⟩
def ana:ng prog 226=some PK:=s8
def tX(a b:ByteArray):(a.toList==b.toList)=decide (a=b):=by
 rw[ByteArray.toList_eq,ByteArray.toList_eq];by_cases h:a=b
 .subst h;simp
 .rw[dA h];cases hb:a.data.toList==b.data.toList with
  |false=>rfl
  |true=>
   have:=eq_of_beq hb;exact absurd (ByteArray.ext (Array.ext' this)) h
abbrev zT:ae ah:=[.string ⟨⟨[]⟩⟩,iV 0,iV 0,iV 0,iV 0,.slice none 0 0,.slice none 0 0,.slice none 0 0,.slice none 0 0,.slice none 0 0]
variable{b2 b3:Nat}
def anb:GI prog (.func 270) [] [ptr' b2,ptr' b3] .returning [] [] (λ_:Unit=>.ok (.tuple ⟨[]⟩)) (λ_=>.returning) (λ_=>[]) (λ_=>[]) (λ_=>True):=by
 refine Ol UL abW λB w0=>?_;refine go ?_;refine Oo (v:=.nilIface) (m':=.returning) rfl ?_;refine go ?_;refine(dx (v:=.bool false) rfl rfl (λh=>by
  exact fh)).h ?_
 exact qT
def anc{e:Int}(he:e=160\/e=161):GI prog (.func 270) [] [ptr' b2,ptr' b3] (.panicking (sw e)) [pt b2 (.cells zT),pt b3 (.cells [iV 0])] [] (λ_:Unit=>.ok (.tuple ⟨[]⟩)) (λ_=>.panicking [{v:=.iface 39 (iV e),recovered:=true}])
 (λ_=>[pt b2 (.cells zT),pt b3 (.cells [iV e])]) (λ_=>[]) (λ_=>True):=by
 refine Ol UL abW λB w0=>?_;refine go ?_;refine Oo (v:=.iface 39 (iV e)) (m':=.panicking [{v:=.iface 39 (iV e),recovered:=true}]) rfl ?_;refine go ?_;refine(dx (v:=.bool true) rfl rfl (λh=>by
  show(match mD prog .neq 20 (.tmp 4) (.const .nilIface) (.iface 39 (iV e)) .nilIface with|some v=>some (v,h)|none=>none)=_;rcases he with rfl|rfl
  .rw[show mD prog .neq 20 (.tmp 4) (.const .nilIface) (.iface 39 (iV 160)) .nilIface=some (.bool true)by kernel_rfl]
  .rw[show mD prog .neq 20 (.tmp 4) (.const .nilIface) (.iface 39 (iV 161)) .nilIface=some (.bool true)by kernel_rfl])).h ?_
 refine go ?_;exact Ot () (hv:=rfl) (hm:=rfl) (hp:=trivial)
structure KT where
 ok:Bool
 e:Int
 vc:Value
 vu:Value
abbrev Dg(d:dR)(vh vs vr:ah)(y:KT):ah:=.tuple ⟨[.agg ⟨cond y.ok (oO (Kd.eO d) vh vs vr y.vc y.vu) zT⟩,iV y.e]⟩
abbrev xJ(d:dR)(y:KT):ae aI:=cond y.ok [ay eP y.vc (Kd.eO d).bT,ay di y.vu (Kd.eO d).rules] []
def HZ(d:dR)(y:KT):Prop:=(y.ok=true->y.e=0/\G8 d)/\(y.ok=false->y.e≠0/\¬G8 d)
structure uX(d:dR):Prop where
 eH:d.symbols.length<=4096
 regs:d.regions.length<=4096
 ny:d.bT.length<=4096
 oP:d.rules.length<=4096
 Dh:∀r∈d.rules,r.names.length<2^63/\r.others.length<2^63
 holes:d.holes.length<2^63
 Di:∀r∈d.regions,r.lists.length<2^63/\∀l∈r.lists,l.length<2^63
section
variable {B:ae Nat} {w0:Wd} {kl bA:ae OA} {F:ae aI} {l:qr} {b2 b3:Nat} {n:Nat}
def Bo{d:dR}{vh vs vr:ah}{e:Int}(he:e=160\/e=161)(hno:¬G8 d)(h2:lk l 2=ptr' b2)(h3:lk l 3=ptr' b3)(hk:aJ [pt b2 (.cells zT),pt b3 (.cells [iV 0])] kl bA):
 R (λh=>rV prog PK (AU B w0 (λy=>.ok (Dg d vh vs vr y)) (λ_=>[]) (xJ d) (HZ d)) (.panic (sw e)) (act n l [{target:=.fn (.func 270) ⟨[ptr' b2,ptr' b3]⟩,args:=⟨[]⟩}] none none) h) B w0 kl F:=by
 refine EE (m:=.panicking (sw e)) ?_;refine Oq (bA:=bA) (dS:=λ_=>[pt b2 (.cells zT),pt b3 (.cells [iV e])]++bA) (F2:=λ_=>F) (anc (b2:=b2) (b3:=b3) he) (λy v _ _=>?_) (λy ch _ hc=>by cases hc) (hk:=hk) (hF:=.nil) (hk2:=λ_=>dz.app) (hF2:=λ_=>dz.nil);show RL _ _ _ _ .returning _ _ _ _ _;refine Ou (bA:=[pt b2 (.cells zT),pt b3 (.cells [iV e])]++bA) (vs:=[.agg ⟨zT⟩,iV e]) ⟨false,e,.nilFunc,.nilFunc⟩ rfl ⟨(λh=>by cases h),λ_=>⟨by rcases he with rfl|rfl<;>simp,hno⟩⟩ (hr:=?_) (hk:=.nil) (hF:=.nil);show RS l _ [.pX 10 2,.cell1 3] _;exact .pX h2 .here rfl (.cell1 h3 (.there .here) rfl .nil)
end
section
variable {B:ae Nat} {w0:Wd} {kl bA:ae OA} {F:ae aI} {l:qr} {b2 b3:Nat} {n:Nat}
def ab0{d:dR}{vh vs vr:ah}{o:Out}{cs:ae ah}{e:Int}(y:KT)(ho:wW o=some .returning)(hcs:cs=cond y.ok (oO (Kd.eO d) vh vs vr y.vc y.vu) zT)(hl:cs.length=10)(hy:y.e=e)(hp:HZ d y)(hF:∀w,(∀f∈F,f.p w)->∀f∈xJ d y,f.p w)(h2:lk l 2=ptr' b2)(h3:lk l 3=ptr' b3)(hk:aJ [pt b2 (.cells cs),pt b3 (.cells [iV e])] kl bA):
 R (λh=>rV prog PK (AU B w0 (λy=>.ok (Dg d vh vs vr y)) (λ_=>[]) (xJ d) (HZ d)) o (act n l [{target:=.fn (.func 270) ⟨[ptr' b2,ptr' b3]⟩,args:=⟨[]⟩}] none none) h) B w0 kl F:=by
 refine EE (m:=.returning) ?_ ho;refine Oq (k1:=[]) (bA:=kl) (dS:=λ_=>kl) (F2:=λ_=>F) (anb (b2:=b2) (b3:=b3)) (λ_ v _ _=>?_) (λ_ ch _ hc=>by cases hc) (hk:=.nil) (hF:=.nil) (hk2:=λ_=>dz.nil) (hF2:=λ_=>dz.nil);show RL _ _ _ _ .returning _ _ _ _ _;intro w s;have s':St B w0 ([pt b2 (.cells cs),pt b3 (.cells [iV e])]++bA) (xJ d y) w:=by
  exact oS
 refine Ou (F:=xJ d y) (bA:=[pt b2 (.cells cs),pt b3 (.cells [iV e])]++bA) (vs:=[.agg ⟨cs⟩,iV e]) y ?_ hp (hr:=?_) (hk:=.nil) (hF:=?_) w s'
 .show jL.ok (Dg d vh vs vr y)=_;unfold Dg;rw[<- hcs,hy];rfl
 .show RS l _ [.pX 10 2,.cell1 3] _;exact .pX h2 .here (by rw[qw,qM,za,if_pos s6,<- hl,dK]) (.cell1 h3 (.there .here) rfl .nil)
 .exact oA
end
variable{X:ae (bF×di.Y)}{k:Nat}
def H6(hk:k<X.length){q q':bF×di.Y}{j:Nat}{v:ah}(h:(di.pat q.1 q.2).set j v=di.pat q'.1 q'.2)(hj:j<12):(dP di (X.set k q)).set (0+k*12+j) v=dP di (X.set k q'):=by
 rw[gq];have:=Tt (E:=di) (aF:=X.set k q) (k:=k) (p:=q) (p':=q') C5 h hj;rw[List.set_set]at this;exact this
def ET(hk:k<X.length){q:bF×di.Y}{j:Nat}{u:ah}(h:(di.pat q.1 q.2)[j]? =some u):(dP di (X.set k q))[0+k*12+j]? =some u:=by
 rw[gq];exact yC (E:=di) (aF:=X.set k q) (k:=k) C5 h
def H7(hk:k<X.length){q:bF×di.Y}{j:Nat}(hj:j<12):0+k*12+j<(dP di (X.set k q)).length:=by
 rw[zJ,lu];show 0+k*12+j<X.length*12;omega
def ab1{d:dR}{vh vs vr vc vu:ah}(hS:uX d):aY prog (.func 226) [.agg ⟨oO d vh vs vr vc vu⟩] [] [] (uQ d vh vs vr vc vu) (Dg d vh vs vr) (λ_=>[]) (xJ d) (HZ d):=by
 refine rX.toC _ ?_ (λ_ _=>rfl);have hsl:=hS.eH;have hrl:=hS.regs;have hcl:=hS.ny;have pO:=hS.oP;refine zH PK ana λB w0=>?_;refine go ?_;intro b1 b2 b3;refine go ?_;refine Zq ?_;refine aK ?_ ?_<;>intro h1
 .refine go ?_;exact ab0 (e:=2) (cs:=zT) ⟨false,2,.nilFunc,.nilFunc⟩ rfl rfl rfl rfl ⟨(λh=>by cases h),λ_=>⟨s7,λh=>by have:=h.eH;omega⟩⟩ (λw _ f hf=>by cases hf) rfl rfl tc
 have hsy:(iR d).length<=16:=by show(d.symbols.map (·.name)).length<=16;rw[bi];omega
 refine go ?_;refine yB jd (λbs=>?_);refine go ?_;refine vW (am2 (b:=bs) (start:=0) (aC:=[]) hsl s6 Ad) (λy v hy e=>?_) (λy ch hy e=>?_)
 rotate_left
 .obtain⟨y,ns⟩:=y;cases y with
  |true=>cases e
  |false=>
   injection e with e;subst e;refine go ?_;exact Bo (e:=161) (.inr rfl) (λh=>hy.2 rfl (by simpa[iR]using h.ak2)) rfl rfl tc
 obtain⟨y,ns⟩:=y;cases y with
 |false=>cases e
 |true=>
 injection e with e;subst e;have hns:ns=iR d:=(hy.1 rfl).1;have hsn:(iR d).Nodup:=by have:=(hy.1 rfl).2;simpa[iR]using this
 clear hy;subst hns;dsimp only;rw[show([]:ae (ByteArray×ah))++gz _ 0=gz _ 0 from rfl];refine gZ (EH (b:=bs)) ?_;refine go ?_;intro b4;refine go ?_;refine yB jd (λbf=>?_);refine fH am6 (next:=λvg _=>?_);refine vW (am1 (b:=bf) (xs:=EM) (start:=0) (aC:=[]) tg s6 Ad) (λy v hy e=>?_) (λy ch hy e=>?_)
 rotate_left
 .obtain⟨y,ns⟩:=y;cases y with
  |true=>cases e
  |false=>exact absurd tg (hy.2 rfl)
 obtain⟨y,ns⟩:=y;cases y with
 |false=>cases e
 |true=>
 injection e with e;subst e;have hns:ns=EM:=(hy.1 rfl).1;clear hy;subst hns;dsimp only;rw[show([]:ae (ByteArray×ah))++gz _ 0=gz _ 0 from rfl];refine vW (am3 (b:=bf) (start:=8) (aC:=gz EM 0) hrl s6 (by rw[xC];decide)) (λy v hy e=>?_) (λy ch hy e=>?_)
 rotate_left
 .obtain⟨y,ns⟩:=y;cases y with
  |true=>cases e
  |false=>
   injection e with e;subst e;refine go ?_;exact Bo (e:=161) (.inr rfl) (λh=>hy.2 rfl (by rw[xC];exact h.ak3)) rfl rfl tc
 obtain⟨y,ns⟩:=y;cases y with
 |false=>cases e
 |true=>
 injection e with e;subst e;have hns:ns=d.regions.map ru.name:=(hy.1 rfl).1;have hfn:(iT d).Nodup:=by have:=(hy.1 rfl).2;rw[xC]at this;exact this
 clear hy;subst hns;dsimp only;have hfe:gz EM 0++gz (d.regions.map ru.name) 8=gz (iT d) 0:=by
  unfold iT;rw[TN];rfl
 rw[hfe];clear hfe;refine gZ (EH (b:=bf)) ?_;refine go ?_;refine yB jd (λbc=>?_);refine go ?_;refine vW (am4 (b:=bc) (start:=0) (aC:=[]) hcl s6 Ad) (λy v hy e=>?_) (λy ch hy e=>?_)
 rotate_left
 .obtain⟨y,ns⟩:=y;cases y with
  |true=>cases e
  |false=>
   injection e with e;subst e;refine go ?_;exact Bo (e:=161) (.inr rfl) (λh=>hy.2 rfl (by simpa[mM]using h.ak4)) rfl rfl tc
 obtain⟨y,ns⟩:=y;cases y with
 |false=>cases e
 |true=>
 injection e with e;subst e;have hns:ns=mM d:=(hy.1 rfl).1;have hcn:(mM d).Nodup:=by have:=(hy.1 rfl).2;simpa[mM]using this
 clear hy;subst hns;dsimp only;rw[show([]:ae (ByteArray×ah))++gz _ 0=gz _ 0 from rfl];refine gZ (EH (b:=bc)) ?_;refine go ?_;refine J6 eP vc (λxc zO=>?_);have hxl:xc.length=d.bT.length:=by rw[<- zO,bi]
 refine fH (am8 (aF:=xc) s6) (next:=λv1 _=>?_);refine ZK (E:=eP) (v:=v1) (aF:=xc) (λa1 e1=>?_);subst e1;refine go ?_;let f1:jA×eP.Y->jA×eP.Y:=λp=>(G7 (iT d) p.1,p.2)
 rw[show ar eP (.slice a1 xc.length xc.length) xc=ar eP (.slice a1 xc.length xc.length) (kW f1 0 xc)from rfl];refine dL (λk=>xc.length - k) (λk:Nat=>[(38,iV (k:Int))]) (λk=>[ar eP (.slice a1 xc.length xc.length) (kW f1 k xc)]) (λ_=>[]) (λk=>k<=xc.length/\∀p∈xc.take k,p.1.on∈iT d) 0 ⟨bI _,s7⟩ (body:=?_);rintro k ⟨hk,hall⟩;refine aK ?_ ?_<;>intro h2
 .refine go ?_;refine ZJ (E:=eP) (aF:=kW f1 k xc) (by rw[CW];omega) (λbx fx hfx ev=>?_);injection ev with ea _ _;subst ea;refine go ?_;obtain⟨p,hp⟩:∃p,xc[k]? =some p:=⟨xc[k]'(s6),bN _⟩
  have hget:(kW f1 k xc)[k]? =some p:=by rw[aaC _ s6];exact hp
  have nM:p.1∈d.bT:=by rw[<- zO];exact List.mem_map_of_mem (aV hp)
  refine oN (o:=0+k*6+1) (cs:=dP eP (kW f1 k xc)) (.string p.1.on) (by rw[gq];exact yC (E:=eP) (j:=1) hget rfl) ?_;refine vW (PI (b:=bf) (s:=p.1.on) (aC:=gz (iT d) 0)) (λy v hy e=>?_) (λy ch hy e=>?_)
  rotate_left
  .have hm:p.1.on∉iT d:=by
    exact nc
   rw[wm yq]at hy;subst hy;injection e with e;subst e;refine go ?_;exact Bo (e:=160) (.inl rfl) (λh=>hm (h.aaA p.1 nM)) rfl rfl tc
  have hm:p.1.on∈iT d:=by
   by_cases h:p.1.on∈iT d
   .exact h
   .exact j8
  rw[Bb hm]at hy;subst hy;injection e with e;subst e;rw[gq];refine go ?_;refine jN (o:=0+k*6+2) (cs:=dP eP (kW f1 k xc)) (cs':=dP eP (kW f1 (k+1) xc)) (v:=iV ((jY p.1.on (iT d):Nat):Int)) (by rw[gq,<- aaD f1 hp];exact Tt (E:=eP) (j:=2) (p':=f1 p) hget rfl tg) (by rw[zJ,CW];show 0+k*6+2<xc.length*6;omega) ?_;refine go ?_;refine xz (b:=bx) (f:=fx) (m:=xc.length) eP (aF:=kW f1 (k+1) xc) (by rw[CW]) hfx ?_;refine aW (k+1) s6 ⟨s6,λq hq=>?_⟩;rw[rP,hp]at hq;rcases fU.1 hq with h|h
  .exact hall q h
  .have:q=p:=by simpa using h
   rw[this];exact hm
 have hkl:k=xc.length:=s6
 subst hkl;rw[dK]at hall;have hcon:∀c∈d.bT,c.on∈iT d:=by
  intro c hc;rw[<- zO]at hc;obtain⟨p,hp,rfl⟩:=cO.1 hc;exact hall p hp
 clear hall hk;rw[aaB];refine go ?_;refine yB jd (λbu=>?_);refine go ?_;refine vW (am5 (b:=bu) (start:=0) (aC:=[]) pO s6 Ad) (λy v hy e=>?_) (λy ch hy e=>?_)
 rotate_left
 .obtain⟨y,ns⟩:=y;cases y with
  |true=>cases e
  |false=>
   injection e with e;subst e;refine go ?_;exact Bo (e:=161) (.inr rfl) (λh=>hy.2 rfl (by simpa[OV]using h.ak5)) rfl rfl tc
 obtain⟨y,ns⟩:=y;cases y with
 |false=>cases e
 |true=>
 injection e with e;subst e;have hrn:(OV d).Nodup:=by have:=(hy.1 rfl).2;simpa[OV]using this
 clear hy;dsimp only;refine gZ (EH (b:=bu)) ?_;refine go ?_;refine J6 di vu (λxr nA=>?_);have au7:xr.length=d.rules.length:=by rw[<- nA,bi]
 refine fH (am9 (aF:=xr) s6) (next:=λv2 _=>?_);refine ZK (E:=di) (v:=v2) (aF:=xr) (λa2 e2=>?_);subst e2;refine go ?_;refine gP b4 ?_;refine go ?_;let f2:bF×di.Y->bF×di.Y:=λp=>(yE (iR d) (iT d) (mM d) p.1,p.2)
 rw[show ar di (.slice a2 xr.length xr.length) xr=ar di (.slice a2 xr.length xr.length) (kW f2 0 xr)from rfl];refine Tu (E:=di) (v:=vu) (aF:=xr) ?_;refine dL (λk=>xr.length - k) (λk:Nat=>[(67,iV (k:Int))]) (λk=>[ar di (.slice a2 xr.length xr.length) (kW f2 k xr)]) (λ_=>[]) (λk=>k<=xr.length/\∀p∈xr.take k,TP (iR d) (iT d) (mM d) p.1) 0 ⟨bI _,s7⟩ (body:=?_);rintro k ⟨hk,hall⟩;refine aK ?_ ?_<;>intro h2
 .refine go ?_;refine ZJ (E:=di) (aF:=kW f2 k xr) (by rw[CW];omega) (λfV fy hfy ev=>?_);injection ev with ea _ _;subst ea;obtain⟨p,hp⟩:∃p,xr[k]? =some p:=⟨xr[k]'(s6),bN _⟩
  have hpm:=aV hp;have hget:(kW f2 k xr)[k]? =some p:=by rw[aaC _ s6];exact hp
  have nM:p.1∈d.rules:=by rw[<- nA];exact List.mem_map_of_mem hpm
  have hfin:=aaD f2 hp;obtain⟨r,v3,v4⟩:=p;have hrs:=hS.Dh r nM;have oQ:k<(kW f2 k xr).length:=by rw[CW];omega
  have ane:(kW f2 k xr).length=xr.length:=CW _ _ _;have e0:kW f2 k xr=(kW f2 k xr).set k (r,v3,v4):=by
   apply iQ;intro i;rw[rM];by_cases hi:k=i
   .subst hi;rw[if_pos rfl,if_pos oQ,hget]
   .rw[if_neg hi]
  refine fA (ay ko v3 r.names) (λw h=>h (vZ di xr) (eX ..) _ hpm _ (eX ..)) ?_;refine fA (ay ko v4 r.others) (λw h=>h (vZ di xr) (fP _ (eX ..)) _ hpm _ (fP _ (eX ..))) ?_;rw[e0];rw[<- e0];generalize hX:kW f2 k xr=X at oQ ane e0 hfin;rw[e0];refine go ?_;refine jN (o:=0+k*12+3) (cs:=dP di (X.set k (r,v3,v4))) (cs':=dP di (X.set k ({r with family:=0},v3,v4))) (v:=iV 0) (H6 oQ rfl s6) (H7 oQ s6) ?_;refine go ?_;refine jN (o:=0+k*12+11) (cs:=dP di (X.set k ({r with family:=0},v3,v4))) (cs':=dP di (X.set k ({r with family:=0,aN:= -1},v3,v4))) (v:=iV (-1)) (H6 oQ rfl s6) (H7 oQ s6) ?_;refine go ?_;refine oN (o:=0+k*12+1) (cs:=dP di (X.set k ({r with family:=0,aN:= -1},v3,v4))) (.string r.on) (ET oQ rfl) ?_;refine go ?_;refine Zn (bA:=[pt b1 (.cells [.string d.name,iV d.version,iV d.shape,iV d.w,iV d.h,vh,vs,vr,.slice a1 xc.length xc.length,.slice (some ⟨fV,0,some fy⟩) xr.length xr.length]),ar eP (.slice a1 xc.length xc.length) (xc.map f1),pt b3 (.cells [iV 0]),pt b2 (.cells zT)]) [] (λ_:Unit=>[]) (λ_=>[pt fV (.cells (dP di (X.set k ({r with family:=if r.on=⟨⟨[]⟩⟩then 0 else(jY r.on (iT d):Int),aN:= -1},v3,v4))))]) (λ_=>[]) (λ_=>r.on=⟨⟨[]⟩⟩\/r.on∈iT d) (hx:=?_) (hy:=?_)
  .refine qW (p:=r.on=⟨⟨[]⟩⟩) yW (λh3=>?_) (λh3=>?_)
   .refine go ?_;refine oN (o:=0+k*12+1) (cs:=dP di (X.set k ({r with family:=0,aN:= -1},v3,v4))) (.string r.on) (ET oQ rfl) ?_;refine vW (PI (b:=bf) (s:=r.on) (aC:=gz (iT d) 0)) (λy v hy e=>?_) (λy ch hy e=>?_)
    rotate_left
    .have hm:r.on∉iT d:=by
      exact nc
     rw[wm yq]at hy;subst hy;injection e with e;subst e;refine go ?_;refine ajB ?_;refine go ?_;exact Bo (e:=160) (.inl rfl) (λh=>(h.qc r nM).on.elim h3 hm) rfl rfl tc
    have hm:r.on∈iT d:=by
     by_cases h:r.on∈iT d
     .exact h
     .exact j8
    rw[Bb hm]at hy;subst hy;injection e with e;subst e;rw[gq];refine go ?_;refine jN (o:=0+k*12+3) (cs:=dP di (X.set k ({r with family:=0,aN:= -1},v3,v4))) (cs':=dP di (X.set k ({r with family:=if r.on=⟨⟨[]⟩⟩then 0 else(jY r.on (iT d):Int),aN:= -1},v3,v4))) (v:=iV ((jY r.on (iT d):Nat):Int)) (by rw[if_neg h3];exact H6 oQ rfl s6) (H7 oQ s6) ?_;refine go ?_;exact Oj () (.inr hm)
   .refine go ?_;rw[show({r with family:=0,aN:= -1}:bF)={r with family:=if r.on=⟨⟨[]⟩⟩then 0 else(jY r.on (iT d):Int),aN:= -1}by rw[if_pos h3]];exact Oj () (.inl h3)
  intro _ hon;generalize hfm:(if r.on=⟨⟨[]⟩⟩then 0 else(jY r.on (iT d):Int))=fm;refine go ?_;refine oN (o:=0+k*12+4) (cs:=dP di (X.set k ({r with family:=fm,aN:= -1},v3,v4))) v3 (ET oQ rfl) ?_;refine go ?_;refine oN (o:=0+k*12+5) (cs:=dP di (X.set k ({r with family:=fm,aN:= -1},v3,v4))) v4 (ET oQ rfl) ?_;refine go ?_;refine vW (abZ (b4:=b4) (bs:=bs) (vl:=v3) (eH:=iR d) (l:=r.names) hsy hrs.1) (λy v hy e=>?_) (λy ch hy e=>?_)
   (hs:=λy v _ _=>Gw (b:=fV) (o:=0+k*12+5) (cs:=dP di (X.set k ({r with family:=fm,aN:= -1},v3,v4))) (v:=v4) rfl w7 (by rw[uE];exact ET oQ rfl) rfl Gv)
  rotate_left
  .cases y with
   |true=>cases e
   |false=>
    injection e with e;subst e;refine go ?_;exact Bo (e:=160) (.inl rfl) (λh=>hy.2 rfl (h.qc r nM).names) rfl rfl tc
  cases y with
  |false=>cases e
  |true=>
  injection e with e;subst e;have anf:=hy.1 rfl;clear hy;refine go ?_;refine go ?_;refine vW (abZ (b4:=b4) (bs:=bs) (vl:=v4) (eH:=iR d) (l:=r.others) hsy hrs.2) (λy v hy e=>?_) (λy ch hy e=>?_)
  rotate_left
  .cases y with
   |true=>cases e
   |false=>
    injection e with e;subst e;refine go ?_;exact Bo (e:=160) (.inl rfl) (λh=>hy.2 rfl (h.qc r nM).others) rfl rfl tc
  cases y with
  |false=>cases e
  |true=>
  injection e with e;subst e;have ang:=hy.1 rfl;clear hy;refine go ?_;refine jN (o:=0+k*12+6) (cs:=dP di (X.set k ({r with family:=fm,aN:= -1},v3,v4))) (cs':=dP di (X.set k ({r with family:=fm,aN:= -1,set:=(kI (iR d) r.names:Int)},v3,v4))) (v:=iV (kI (iR d) r.names:Int)) (H6 oQ rfl s6) (H7 oQ s6) ?_;refine go ?_;refine jN (o:=0+k*12+7) (cs:=dP di (X.set k ({r with family:=fm,aN:= -1,set:=(kI (iR d) r.names:Int)},v3,v4))) (cs':=dP di (X.set k ({r with family:=fm,aN:= -1,set:=(kI (iR d) r.names:Int),other:=(kI (iR d) r.others:Int)},v3,v4))) (v:=iV (kI (iR d) r.others:Int)) (H6 oQ rfl s6) (H7 oQ s6) ?_;refine go ?_;refine oN (o:=0+k*12+10) (cs:=dP di (X.set k ({r with family:=fm,aN:= -1,set:=(kI (iR d) r.names:Int),other:=(kI (iR d) r.others:Int)},v3,v4))) (.string r.fV) (ET oQ rfl) ?_;refine go ?_;have hnext:(r.fV=⟨⟨[]⟩⟩\/r.fV∈mM d)->∀q∈xr.take (k+1),TP (iR d) (iT d) (mM d) q.1:=by
   intro hby q hq;rw[rP,hp]at hq;rcases fU.1 hq with h|h
   .exact hall q h
   .have:q=(r,v3,v4):=bR.1 (show q∈[(r,v3,v4)]from h);rw[this];exact⟨hon,anf,ang,hby⟩
  refine qW (p:=r.fV=⟨⟨[]⟩⟩) yW (λh3=>?_) (λh3=>?_)
  .refine go ?_;refine oN (o:=0+k*12+10) (cs:=dP di (X.set k ({r with family:=fm,aN:= -1,set:=(kI (iR d) r.names:Int),other:=(kI (iR d) r.others:Int)},v3,v4))) (.string r.fV) (ET oQ rfl) ?_;refine vW (PI (b:=bc) (s:=r.fV) (aC:=gz (mM d) 0)) (λy v hy e=>?_) (λy ch hy e=>?_)
   rotate_left
   .have hm:r.fV∉mM d:=by
     exact nc
    rw[wm yq]at hy;subst hy;injection e with e;subst e;refine go ?_;exact Bo (e:=160) (.inl rfl) (λh=>(h.qc r nM).fV.elim h3 hm) rfl rfl tc
   have hm:r.fV∈mM d:=by
    by_cases h:r.fV∈mM d
    .exact h
    .exact j8
   rw[Bb hm]at hy;subst hy;injection e with e;subst e;rw[gq];refine go ?_;refine jN (o:=0+k*12+11) (cs:=dP di (X.set k ({r with family:=fm,aN:= -1,set:=(kI (iR d) r.names:Int),other:=(kI (iR d) r.others:Int)},v3,v4))) (cs':=dP di (X.set k (f2 (r,v3,v4)))) (v:=iV ((jY r.fV (mM d):Nat):Int)) (H6 oQ (by show _=jf (yE (iR d) (iT d) (mM d) r) v3 v4;unfold yE;rw[if_neg h3,hfm];rfl) s6) (H7 oQ s6) ?_;refine go ?_;rw[hfin];refine xz (b:=fV) (f:=fy) (m:=xr.length) di (aF:=kW f2 (k+1) xr) (by rw[CW]) hfy ?_;exact aW (k+1) s6 ⟨s6,hnext (.inr hm)⟩
  .refine go ?_;rw[show X.set k (({r with family:=fm,aN:= -1,set:=(kI (iR d) r.names:Int),other:=(kI (iR d) r.others:Int)}:bF),v3,v4)=kW f2 (k+1) xr by
    rw[<- hfin];congr 1;show _=(yE (iR d) (iT d) (mM d) r,v3,v4)
    unfold yE;rw[if_pos h3,hfm];rfl]
   refine xz (b:=fV) (f:=fy) (m:=xr.length) di (aF:=kW f2 (k+1) xr) (by rw[CW]) hfy ?_;exact aW (k+1) s6 ⟨s6,hnext (.inl h3)⟩
 have hkl:k=xr.length:=s6
 subst hkl;rw[dK]at hall;rw[aaB];refine Oy (E:=eP) (v:=.slice a1 xc.length xc.length) (aF:=xc.map f1) ?_ (λw h p hp f hf=>by cases hf);refine Oy (E:=di) (v:=.slice a2 xr.length xr.length) (aF:=xr.map f2) ?_ (λw h p hp f hf=>by
  obtain⟨q,hq,rfl⟩:=cO.1 hp;exact h (vZ di xr) (fP _ (fP _ (eX ..))) q hq f hf)
 refine go ?_;refine ab0 (e:=0) ⟨true,0,.slice a1 xc.length xc.length,.slice a2 xr.length xr.length⟩ rfl (by rfl) rfl rfl ⟨λ_=>⟨rfl,⟨s6,hsn,hfn,hcn,hcon,hrn,λr hr=>?_⟩⟩,λh=>by cases h⟩ (λw h f hf=>?_) rfl rfl tc
 .rw[<- nA]at hr;obtain⟨p,hp,rfl⟩:=cO.1 hr;exact hall p hp
 .have ec:(xc.map f1).map (·.1)=(Kd.eO d).bT:=by
   show _=d.bT.map (G7 (iT d));rw[<- zO,rO,rO];rfl
  have er:(xr.map f2).map (·.1)=(Kd.eO d).rules:=by
   show _=d.rules.map (yE (iR d) (iT d) (mM d));rw[<- nA,rO,rO];rfl
  rw[ec,er]at h;have hf:f∈[ay eP (.slice a1 xc.length xc.length) (Kd.eO d).bT,ay di (.slice a2 xr.length xr.length) (Kd.eO d).rules]:=hf;rcases dm.1 hf with rfl|hf
  .exact h _ s7
  .rw[bR.1 hf];exact h _ s7
end Go.Proofs.YtgimfpcgbmpkhaaGreat
namespace Go.Proofs.YtgimfpcgbmpkhaaGreat
open Tryz (prog)
open Go.Ideal Kd
variable{va vb:ah}{xs ys:ae (ae Int)}
def ab3(hal:xs.length<2^63)(hl:∀l∈xs,l.length<2^63):dO prog 233 [va,vb,.func (.func 91) #[] #[]] [ay (aA aj) va xs,ay (aA aj) vb ys] (.bool (decide (xs=ys))):=by
 refine gB 233 λB w0=>?_;refine aK ?_ ?_<;>intro h1
 .exact dr
 have hlen:xs.length=ys.length:=s6
 refine gN xs.length 17 (λk=>k<=xs.length/\∀j,j<k->xs[j]? =ys[j]?) ⟨s6,λj hj=>by omega⟩ ?_;rintro k ⟨hkx,hsame⟩;refine aK ?_ ?_<;>intro h2
 .refine gX (aA aj) λ_ _ x (vx:ah) hx=>?_;refine gX (aA aj) λ_ _ y (vy:ah) hy=>?_;refine gC (wC (xs:=x) (ys:=y) (hl x (aV hx))) λ_ _=>?_;refine go ?_;refine qW rfl (λh3=>?_) (λh3=>?_)
  .exact da
  exact cP
 exact cN
def ab4(hal:xs.length<2^63)(hl:∀l∈xs,l.length<2^63):dO prog 197 [va,vb] [ay (aA aj) va xs,ay (aA aj) vb ys] (.bool (decide (xs=ys))):=by
 refine gB 197 λB w0=>?_;refine gC (ab3 (xs:=xs) (ys:=ys) hal hl) λ_ _=>?_;exact dH
def anh{xs ys:ae (ae (ae Int))}(hal:xs.length<2^63)(hl:∀l∈xs,l.length<2^63/\∀m∈l,m.length<2^63):dO prog 198 [va,vb,.func (.func 197) #[] #[]] [ay (aA (aA aj)) va xs,ay (aA (aA aj)) vb ys] (.bool (decide (xs=ys))):=by
 refine gB 198 λB w0=>?_;refine aK ?_ ?_<;>intro h1
 .exact dr
 have hlen:xs.length=ys.length:=s6
 refine gN xs.length 17 (λk=>k<=xs.length/\∀j,j<k->xs[j]? =ys[j]?) ⟨s6,λj hj=>by omega⟩ ?_;rintro k ⟨hkx,hsame⟩;refine aK ?_ ?_<;>intro h2
 .refine gX (aA (aA aj)) λ_ _ x (vx:ah) hx=>?_;refine gX (aA (aA aj)) λ_ _ y (vy:ah) hy=>?_;refine gC (ab4 (xs:=x) (ys:=y) (hl x (aV hx)).1 (hl x (aV hx)).2) λ_ _=>?_;refine go ?_;refine qW rfl (λh3=>?_) (λh3=>?_)
  .exact da
  exact cP
 exact cN
def ab5{xs ys:ae ByteArray}(hal:xs.length<2^63):dO prog 235 [va,vb] [ay ko va xs,ay ko vb ys] (.bool (decide (xs=ys))):=by
 refine gB 235 λB w0=>?_;refine aK ?_ ?_<;>intro h1
 .exact dr
 have hlen:xs.length=ys.length:=s6
 refine gN xs.length 13 (λk=>k<=xs.length/\∀j,j<k->xs[j]? =ys[j]?) ⟨s6,λj hj=>by omega⟩ ?_;rintro k ⟨hkx,hsame⟩;refine aK ?_ ?_<;>intro h2
 .refine gX ko λ_ _ x (_:Unit) hx=>?_;refine gX ko λ_ _ y (_:Unit) hy=>?_;refine go ?_;refine qW (p:=x=y) yW (λh3=>?_) (λh3=>?_)
  .exact da
  exact cP
 exact cN
def ani(x y:nQ):cellsE [.string x.name,iV x.value] [.string y.name,iV y.value]=decide (x=y):=by
 obtain⟨a,b⟩:=x;obtain⟨c,e⟩:=y;show(decide (a=c)&&(decide (b=e)&&true))=_;rw[Bool.and_true,<- Bool.decide_and];exact nZ.2 ⟨λh=>by rw[h.1,h.2],λh=>by cases h;exact⟨rfl,rfl⟩⟩
abbrev PL(x:jA):ae ah:=[.string x.name,.string x.on,iV x.family,iV x.type,iV x.lo,iV x.hi]
def anj(x y:jA):cellsE (PL x) (PL y)=decide (x=y):=by
 obtain⟨a1,a2,a3,a4,a5,a6⟩:=x;obtain⟨b1,b2,b3,b4,b5,b6⟩:=y;show(decide (a1=b1)&&(decide (a2=b2)&&(decide (a3=b3)&&(decide (a4=b4)&&(decide (a5=b5)&&(decide (a6=b6)&&true))))))=_;rw[Bool.and_true];simp only[<- Bool.decide_and];exact nZ.2 ⟨λh=>by rw[h.1,h.2.1,h.2.2.1,h.2.2.2.1,h.2.2.2.2.1,h.2.2.2.2.2],λh=>by cases h;exact⟨rfl,rfl,rfl,rfl,rfl,rfl⟩⟩
def ank:∃fs:Array Field,prog.underlying 94=some (.struct fs)/\GN prog fs.toList 0 [false,true]=true:=by
 refine⟨prog.fieldsOf 94,s8,s8⟩
def anl:∃fs:Array Field,prog.underlying 147=some (.struct fs)/\GN prog fs.toList 0 [false,false,true,true,true,true]=true:=by
 refine⟨prog.fieldsOf 147,s8,s8⟩
def anm{xs ys:ae nQ}(hal:xs.length<2^63):dO prog 236 [va,vb] [ay jO va xs,ay jO vb ys] (.bool (decide (xs=ys))):=by
 obtain⟨fs,hu,hrow⟩:=ank;refine gB 236 λB w0=>?_;refine aK ?_ ?_<;>intro h1
 .exact dr
 have hlen:xs.length=ys.length:=s6
 refine gN xs.length 13 (λk=>k<=xs.length/\∀j,j<k->xs[j]? =ys[j]?) ⟨s6,λj hj=>by omega⟩ ?_;rintro k ⟨hkx,hsame⟩;refine aK ?_ ?_<;>intro h2
 .refine gX jO λ_ _ x (_:Unit) hx=>?_;refine gX jO λ_ _ y (_:Unit) hy=>?_;refine go ?_;refine(dx (v:=.bool (!decide (x=y))) rfl rfl (by rw[<- ani];exact ZO rfl rfl hu s8 s8 (row_of hrow rfl rfl (λj=>by rw[gq]) (λj=>by rw[gq])) zc zc)).h ?_;refine go ?_;refine qW rfl (λh3=>?_) (λh3=>?_)
  .exact da
  exact cP
 exact cN
def ann{xs ys:ae jA}(hal:xs.length<2^63):dO prog 238 [va,vb] [ay eP va xs,ay eP vb ys] (.bool (decide (xs=ys))):=by
 obtain⟨fs,hu,hrow⟩:=anl;refine gB 238 λB w0=>?_;refine aK ?_ ?_<;>intro h1
 .exact dr
 have hlen:xs.length=ys.length:=s6
 refine gN xs.length 13 (λk=>k<=xs.length/\∀j,j<k->xs[j]? =ys[j]?) ⟨s6,λj hj=>by omega⟩ ?_;rintro k ⟨hkx,hsame⟩;refine aK ?_ ?_<;>intro h2
 .refine gX eP λ_ _ x (_:Unit) hx=>?_;refine gX eP λ_ _ y (_:Unit) hy=>?_;refine go ?_;refine(dx (v:=.bool (!decide (x=y))) rfl rfl (by rw[<- anj];exact ZO rfl rfl hu s8 s8 (row_of hrow rfl rfl (λj=>by rw[gq]) (λj=>by rw[gq])) zc zc)).h ?_;refine go ?_;refine qW rfl (λh3=>?_) (λh3=>?_)
  .exact da
  exact cP
 exact cN
end Go.Proofs.YtgimfpcgbmpkhaaGreat
namespace Go.Proofs.YtgimfpcgbmpkhaaGreat
open Tryz (prog)
open Go.Ideal Kd
def ano{x y:ru}{vx vy:ah}(hl:x.lists.length<2^63)(hll:∀l∈x.lists,l.length<2^63):dO prog 232 [.agg ⟨[.string x.name,vx]⟩,.agg ⟨[.string y.name,vy]⟩] [ay (aA aj) vx x.lists,ay (aA aj) vy y.lists] (.bool (decide (x=y))):=by
 obtain⟨n1,l1⟩:=x;obtain⟨n2,l2⟩:=y;dsimp only at hl hll⊢;refine gB 232 λB w0=>?_;refine go ?_;intro b2 b3;refine gH ?_ ?_<;>intro h1
 .rw[tX]at h1;refine aZ ?_;rw[dA (λe=>wS h1 tr)];rfl
 rw[tX]at h1;have h1:=jI h1;refine gC (ab3 (xs:=l1) (ys:=l2) hl hll) λ_ _=>?_;refine aZ ?_;rw[show decide (ru.mk n1 l1=ru.mk n2 l2)=decide (l1=l2)from nZ.2 ⟨λh=>by cases h;rfl,λh=>by rw[h1,h]⟩];rfl
variable{u1 u2:ah}
def anp{x y:bF}{v1 v2:ah}(hl:x.names.length<2^63)(hll:x.others.length<2^63):dO prog 234 [.agg ⟨jf x v1 v2⟩,.agg ⟨jf y u1 u2⟩] [ay ko v1 x.names,ay ko v2 x.others,ay ko u1 y.names,ay ko u2 y.others] (.bool (decide (x=y))):=by
 obtain⟨n1,o1,k1,f1,ns1,os1,s1,t1,p1,m1,y1,c1⟩:=x;obtain⟨n2,o2,k2,f2,ns2,os2,s2,t2,p2,m2,y2,c2⟩:=y;dsimp only[jf]at hl hll⊢;refine gB 234 λB w0=>?_;refine go ?_;intro b2 b3;refine gC (ab5 (xs:=ns1) (ys:=ns2) hl) λ_ _=>?_;refine gH ?_ ?_<;>intro h1
 .refine aZ ?_;rw[dA (λe=>h1 tr)];rfl
 refine gC (ab5 (xs:=os1) (ys:=os2) hll) λ_ _=>?_;refine gH ?_ ?_<;>intro h2
 .refine aZ ?_;rw[dA (λe=>h2 tr)];rfl
 refine gH ?_ ?_<;>intro h3
 .rw[tX]at h3;refine aZ ?_;rw[dA (λe=>wS h3 tr)];rfl
 rw[tX]at h3;have h3:=jI h3;refine gH ?_ ?_<;>intro h4
 .rw[tX]at h4;refine aZ ?_;rw[dA (λe=>wS h4 tr)];rfl
 rw[tX]at h4;have h4:=jI h4;refine gH ?_ ?_<;>intro h5
 .rw[tX]at h5;refine aZ ?_;rw[dA (λe=>wS h5 tr)];rfl
 rw[tX]at h5;have h5:=jI h5;refine go ?_;refine(dx (v:=.bool (decide ([k1,f1,s1,t1,p1,m1,c1]=[k2,f2,s2,t2,p2,m2,c2]))) rfl rfl (ajW (n:=7) (e:=3) rfl rfl s8 s8 s8 rfl rfl s8)).h ?_;refine aZ ?_;rw[show decide (bF.mk n1 o1 k1 f1 ns1 os1 s1 t1 p1 m1 y1 c1=bF.mk n2 o2 k2 f2 ns2 os2 s2 t2 p2 m2 y2 c2)=decide ([k1,f1,s1,t1,p1,m1,c1]=[k2,f2,s2,t2,p2,m2,c2])from nZ.2 ⟨λh=>by cases h;rfl,λh=>by cases h;rw[h1,h2,h3,h4,h5]⟩];rfl
variable{va vb:ah}
def anq{xs ys:ae ru}(hal:xs.length<2^63)(hl:∀r∈xs,r.lists.length<2^63/\∀l∈r.lists,l.length<2^63):dO prog 237 [va,vb,.func (.func 232) #[] #[]] [ay lJ va xs,ay lJ vb ys] (.bool (decide (xs=ys))):=by
 refine gB 237 λB w0=>?_;refine aK ?_ ?_<;>intro h1
 .exact dr
 have hlen:xs.length=ys.length:=s6
 refine gN xs.length 17 (λk=>k<=xs.length/\∀j,j<k->xs[j]? =ys[j]?) ⟨s6,λj hj=>by omega⟩ ?_;rintro k ⟨hkx,hsame⟩;refine aK ?_ ?_<;>intro h2
 .refine gX lJ λ_ _ x (vx:ah) hx=>?_;refine go ?_;intro b8;refine gX lJ λ_ _ y (vy:ah) hy=>?_;refine go ?_;intro b9;refine gC (ano (x:=x) (y:=y) (vx:=vx) (vy:=vy) (hl x (aV hx)).1 (hl x (aV hx)).2) λ_ _=>?_;refine go ?_;refine qW rfl (λh3=>?_) (λh3=>?_)
  .exact da
  exact cP
 exact cN
def anr{xs ys:ae bF}(hal:xs.length<2^63)(hl:∀r∈xs,r.names.length<2^63/\r.others.length<2^63):dO prog 239 [va,vb,.func (.func 234) #[] #[]] [ay di va xs,ay di vb ys] (.bool (decide (xs=ys))):=by
 refine gB 239 λB w0=>?_;refine aK ?_ ?_<;>intro h1
 .exact dr
 have hlen:xs.length=ys.length:=s6
 refine gN xs.length 17 (λk=>k<=xs.length/\∀j,j<k->xs[j]? =ys[j]?) ⟨s6,λj hj=>by omega⟩ ?_;rintro k ⟨hkx,hsame⟩;refine aK ?_ ?_<;>intro h2
 .refine gX di λ_ _ x (vx:ah×ah) hx=>?_;refine go ?_;intro b8;refine gX di λ_ _ y (vy:ah×ah) hy=>?_;refine go ?_;intro b9;refine gC (anp (x:=x) (y:=y) (v1:=vx.1) (v2:=vx.2) (u1:=vy.1) (u2:=vy.2) (hl x (aV hx)).1 (hl x (aV hx)).2) λ_ _=>?_;refine go ?_;refine qW rfl (λh3=>?_) (λh3=>?_)
  .exact da
  exact cP
 exact cN
def ab8{x y:dR}{h1 s1 r1 c1 h2 s2 r2 c2:ah}(hS:uX x):dO prog 196 [.agg ⟨oO x h1 s1 r1 c1 u1⟩,.agg ⟨oO y h2 s2 r2 c2 u2⟩] (uQ x h1 s1 r1 c1 u1++uQ y h2 s2 r2 c2 u2) (.bool (decide (x=y))):=by
 have e1:=hS.eH;have e2:=hS.regs;have e3:=hS.ny;have e4:=hS.oP;have e5:=hS.Dh;have e6:=hS.holes;have e7:=hS.Di;clear hS;obtain⟨n1,v1,p1,w1,g1,ho1,sy1,re1,cl1,UO⟩:=x;obtain⟨n2,v2,p2,w2,g2,ho2,sy2,re2,cl2,UQ⟩:=y;dsimp only at e1 e2 e3 e4 e5 e6 e7;dsimp only[oO,uQ,List.cons_append,List.nil_append];refine gB 196 λB w0=>?_;refine go ?_;intro b2 b3;refine gH ?_ ?_<;>intro k1
 .rw[tX]at k1;refine aZ ?_;rw[dA (λe=>wS k1 tr)];rfl
 rw[tX]at k1;have k1:=jI k1;refine gH ?_ ?_<;>intro k2
 .exact sX
 refine gH ?_ ?_<;>intro k3
 .exact sR
 refine gH ?_ ?_<;>intro k4
 .exact sL
 refine gH ?_ ?_<;>intro k5
 .exact sE
 refine gC (wC (xs:=ho1) (ys:=ho2) e6) λ_ _=>?_;refine gH ?_ ?_<;>intro k6
 .exact sC
 refine gC (anm (xs:=sy1) (ys:=sy2) s6) λ_ _=>?_;refine gH ?_ ?_<;>intro k7
 .exact sB
 refine gC (anq (xs:=re1) (ys:=re2) s6 e7) λ_ _=>?_;refine gH ?_ ?_<;>intro k8
 .refine aZ ?_;rw[dA (λe=>k8 tr)];rfl
 refine gC (ann (xs:=cl1) (ys:=cl2) s6) λ_ _=>?_;refine gH ?_ ?_<;>intro k9
 .refine aZ ?_;rw[dA (λe=>k9 tr)];rfl
 refine gC (anr (xs:=UO) (ys:=UQ) s6 e5) λ_ _=>?_;refine aZ ?_;rw[show decide (dR.mk n1 v1 p1 w1 g1 ho1 sy1 re1 cl1 UO=dR.mk n2 v2 p2 w2 g2 ho2 sy2 re2 cl2 UQ)=decide (UO=UQ)from nZ.2 ⟨λh=>by cases h;rfl,λh=>by rw[k1,k2,k3,k4,k5,k6,k7,k8,k9,h]⟩];rfl
