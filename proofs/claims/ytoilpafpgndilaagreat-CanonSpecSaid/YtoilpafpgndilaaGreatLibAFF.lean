/- Part. -/
import Derived.Test.YtoilpafpgndilaaGreatLibAAF
set_option linter.all false
set_option maxRecDepth 10000
set_option maxHeartbeats 4000000
namespace Go.Proofs.YtoilpafpgndilaaGreat
open Tryz (prog)
open Go.Ideal Kd Canon
def ajl{P:Program}{ρ:aaB->vI}{x y:aaB}{t:adH}{a b:Int}(hx:ρ x=iV a)(hy:ρ y=iV b):Pu P ρ (.bin .add t x y) (iV (IntKind.i64.wrap (a+b))):=λh=>by
 simp only[aF.run,hx,hy];rw[xH (v:=iV (IntKind.i64.wrap (a+b)))];simp only[oZ,KW];rw[Al]
def Xm{k:bD}{vh vs vr vc vu gh gc vn vl:vI}(hB:Bu k):fC prog 15 [.agg ⟨kZ k vh vs vr vc vu gh gc vn vl⟩] (j6 k vh vs vr vc vu gh gc vn vl []) (λb:Bool=>.bool b) (λb=>b=true->Pm k/\k.grid.cells.length<=16/\k.decl.symbols.length<=4):=by
 obtain⟨l1,l2⟩:=hB.lists;have hcb:=hB.cells;have hsb:=hB.eH;refine gB 15 λB w0=>?_;dsimp only[j6];refine gF (ak (ak ae)) vl k.lists λal cl el=>?_;subst el;refine gF ae gc k.grid.cells λag cg eg=>?_;subst eg;refine gF fF vs k.decl.symbols λkY cs1 es1=>?_;subst es1;refine go ?_;intro b1;refine gL (λx:Nat×Int=>k.lists.length - x.1) (λx=>[(4,iV (x.1:Int)),(3,iV x.2)]) (λ_=>True) (8,0) trivial ?_;rintro⟨i,n⟩ -;dsimp only;refine gIf ?_ ?_<;>intro h2
 .refine gX (ak (ak ae)) (xs:=k.lists) (k:=i) λ_ _ x (vx:vI) hx=>?_;have hxl:=l2 x (aZ hx);refine gF (ak ae) vx x λax cx ex=>?_;subst ex;refine go ?_;refine(fA rfl rfl (ajl rfl rfl)).h ?_;refine go ?_;exact aN (i+1,IntKind.i64.wrap (n+(x.length:Int))) JE trivial
 refine gC (aiX (k:=k) hB) λb hb=>?_;cases b with
 |false=>
  exact cM
 |true=>
 have hf:=hb rfl;refine gH ?_ ?_<;>intro t1
 .exact cM
 refine gH ?_ ?_<;>intro t2
 .exact cM
 refine go ?_;exact gQ (decide (n<=12)) (λ_=>⟨hf,z7,z7⟩)
variable{va vb:vI}
def aoG{xs ys:kI Int}(hal:xs.length<=1000000)(hbl:ys.length<=1000000):
 dD prog 69 [va,vb] [ai ae va xs,ai ae vb ys] (iV (fK eU xs ys)):=by
 refine gB 69 λB w0=>?_;refine gN xs.length 5 (λk=>k<=xs.length/\k<=ys.length/\fK eU xs ys=fK eU (xs.drop k) (ys.drop k)) ⟨z7,z7,rfl⟩ ?_;rintro k ⟨hkx,uj,mH⟩;refine gH ?_ ?_<;>intro h1
 .exact cH
 refine gIf ?_ ?_<;>intro h2
 rotate_left
 .exact cH
 refine go ?_;intro _ _ x hx _ _ y hy;refine aA rfl ?_ ?_<;>intro h3
 .exact tE
 refine go ?_;intro _ _ x' hx' _ _ y' hy';cases hx.symm.trans hx';cases hy.symm.trans hy';refine aA rfl ?_ ?_<;>intro h4
 .exact s9
 refine go ?_;refine aN (k+1) z7 ⟨z7,z7,?_⟩;rw[mH,drop_cons hx,drop_cons hy,fK,eU,if_neg h3,if_neg h4];rfl
variable{a b:Clue}
def arF(hal:a.values.length<=1000000)(hbl:b.values.length<=1000000):
 dD prog 34 [wy a va,wy b vb] [ai ae va a.values,ai ae vb b.values] (iV (nW a b)):=by
 refine gB 34 λB w0=>?_;refine go ?_;intro b1 b2 b3 b4;refine gZ WZ ?_;refine gZ WZ ?_;refine ay (aoG (xs:=[a.adJ,a.at_]) (ys:=[b.adJ,b.at_]) An An) (next:=λ_ _=>?_);refine gIf ?_ ?_<;>intro h1
 .refine acM ?_;rw[abv,if_pos h1];rfl
 refine gC (aoG hal hbl) λ_ _=>?_;refine acM ?_;rw[abv,if_neg h1];rfl
abbrev pz(b:Nat)(g:Clue)(v:vI):OA:=pt b (.cells [iV g.adJ,iV g.at_,v])
variable{b2 b3:Nat}
def ajm:
 bA prog (.func 64) [] [ptr' b2,ptr' b3] [pz b2 a va,pz b3 b vb] [] (λ_:Unit=>iV (eU a.adJ b.adJ)) (λ_=>[pz b2 a va,pz b3 b vb]) (λ_=>[]) (λ_=>True):=by
 refine gB 64 λB w0=>?_;refine gC (OL _ _) λ_ _=>?_;exact afN
def ajn:
 bA prog (.func 66) [] [ptr' b2,ptr' b3] [pz b2 a va,pz b3 b vb] [] (λ_:Unit=>iV (eU a.at_ b.at_)) (λ_=>[pz b2 a va,pz b3 b vb]) (λ_=>[]) (λ_=>True):=by
 refine gB 66 λB w0=>?_;refine gC (OL _ _) λ_ _=>?_;exact afN
def ajo(hal:a.values.length<=1000000)(hbl:b.values.length<=1000000):
 bA prog (.func 67) [] [ptr' b2,ptr' b3] [pz b2 a va,pz b3 b vb] [ai ae va a.values,ai ae vb b.values] (λ_:Unit=>iV (fK eU a.values b.values)) (λ_=>[pz b2 a va,pz b3 b vb]) (λ_=>[]) (λ_=>True):=by
 refine gB 67 λB w0=>?_;refine gC (agW hal hbl) λ_ _=>?_;exact afN
def ajp(hal:a.values.length<=1000000)(hbl:b.values.length<=1000000):
 dD prog 33 [wy a va,wy b vb] [ai ae va a.values,ai ae vb b.values] (iV (nW a b)):=by
 refine gB 33 λB w0=>?_;refine go ?_;intro b2 b3 b12;refine mR ?_;refine gC (ajm (a:=a) (b:=b)) λ_ _=>?_;refine gIf ?_ ?_<;>intro h1
 .refine acM ?_;rw[nW,if_pos h1];rfl
 refine go ?_;refine mR ?_;refine gC (ajn (a:=a) (b:=b)) λ_ _=>?_;refine gIf ?_ ?_<;>intro h2
 .refine acM ?_;rw[nW,if_neg h1,if_pos h2];rfl
 refine go ?_;refine mR ?_;refine gC (ajo (a:=a) (b:=b) hal hbl) λ_ _=>?_;refine gIf ?_ ?_<;>intro h3
 .refine acM ?_;rw[nW,if_neg h1,if_neg h2];rfl
 refine go ?_;refine mR ?_;refine acM ?_;rw[nW,if_neg h1,if_neg h2,ic.1 h3];rfl
variable{xs ys:kI Clue}
def Xn{k:Nat}(hx:k<=xs.length)(hy:k<=ys.length)(h:k=xs.length\/k=ys.length):
 qG (xs.drop k) (ys.drop k)=if xs.length<ys.length then -1 else if ys.length<xs.length then 1 else 0:=by
 rcases h with h|h
 .exact gk
 .exact fS
def ajq(hal:xs.length<=1000000)(hbl:ys.length<=1000000)(hx:short xs)(hy:short ys):
 dD prog 32 [va,vb,.func (.func 33) #[] #[]] [ai bO va xs,ai bO vb ys] (iV (qG xs ys)):=by
 refine gB 32 λB w0=>?_;refine gN xs.length 13 (λk=>k<=xs.length/\k<=ys.length/\qG xs ys=qG (xs.drop k) (ys.drop k)) ⟨z7,z7,rfl⟩ ?_;rintro k ⟨hkx,uj,mH⟩;refine gIf ?_ ?_<;>intro h1
 .refine gX bO λ_ _ x (vx:vI) hxk=>?_;refine go ?_;intro b8;refine aA rfl ?_ ?_<;>intro h2
  .refine acM ?_;rw[mH,drop_cons hxk,show ys.drop k=[]from akS z7];rfl
  refine gX bO λ_ _ y (vy:vI) hyk=>?_;refine go ?_;intro b9;refine ay (ajp (a:=x) (b:=y) (hx x (aZ hxk)) (hy y (aZ hyk))) (next:=λ_ _=>?_);refine gIf ?_ ?_<;>intro h3
  .exact tw
  refine go ?_;refine aN (k+1) z7 ⟨z7,z7,?_⟩;rw[mH,drop_cons hxk,drop_cons hyk,qG,fK,if_neg G0]
 refine go ?_;have hkm:k=xs.length:=z7
 refine aA rfl ?_ ?_<;>intro h3
 .refine acM ?_;rw[mH,Xn hkx uj z7,if_pos z7];rfl
 refine acM ?_;rw[mH,Xn hkx uj z7,if_neg z7,if_neg z7];rfl
def ajr(hal:xs.length<=1000000)(hbl:ys.length<=1000000)(hx:short xs)(hy:short ys):
 dD prog 12 [.agg ⟨[va]⟩,.agg ⟨[vb]⟩] [ai bO va xs,ai bO vb ys] (.bool (decide (qG xs ys<0))):=by
 refine gB 12 λB w0=>?_;refine go ?_;intro b2 b3;refine ay (ajq hal hbl hx hy) (next:=λ_ _=>?_);exact afN
def arG(hal:xs.length<=1000000)(hbl:ys.length<=1000000)(hx:short xs)(hy:short ys):
 dD prog 13 [.agg ⟨[va]⟩,.agg ⟨[vb]⟩] [ai bO va xs,ai bO vb ys] (.bool (decide (qG xs ys<0))):=by
 refine gB 13 λB w0=>?_;refine go ?_;intro b2 b3;refine gN xs.length 5 (λk=>k<=xs.length/\k<=ys.length/\qG xs ys=qG (xs.drop k) (ys.drop k)) ⟨z7,z7,rfl⟩ ?_;rintro k ⟨hkx,uj,mH⟩;refine gH ?_ ?_<;>intro h1
 .exact mL
 refine gIf ?_ ?_<;>intro h2
 rotate_left
 .exact mL
 refine gX bO λ_ _ x (vx:vI) hxk=>?_;refine gX bO λ_ _ y (vy:vI) hyk=>?_;refine gC (arF (a:=x) (b:=y) (hx x (aZ hxk)) (hy y (aZ hyk))) λ_ _=>?_;refine gIf ?_ ?_<;>intro h3
 .exact tw
 refine go ?_;refine aN (k+1) z7 ⟨z7,z7,?_⟩;rw[mH,drop_cons hxk,drop_cons hyk,qG,fK,if_neg G0]
def Xo:fC prog 11 [.agg ⟨[va]⟩] [ai bO va xs] (λb:Bool=>.bool b) (λb=>b=true->xs.length<=60/\∀g∈xs,g.values.length<=20):=by
 refine gB 11 λB w0=>?_;refine go ?_;intro b1;refine gN xs.length 3 (λk=>k<=xs.length/\k<=60/\∀j g,j<k->xs[j]? =some g->g.values.length<=20) ⟨z7,z7,λj g hj=>by omega⟩ ?_;rintro k ⟨hkx,hk6,hall⟩;refine gH ?_ ?_<;>intro h1
 .refine go ?_;refine gQ _ (λh=>?_);have h:=iI h;refine⟨z7,λg hg=>?_⟩;obtain⟨j,hj⟩:=jS hg;exact hall j g (by have:=(bq.1 hj).1;omega) hj
 refine gIf ?_ ?_<;>intro h2
 rotate_left
 .refine go ?_;refine gQ _ (λh=>?_);have h:=iI h;omega
 refine gX bO λ_ _ x (vx:vI) hxk=>?_;refine gIf ?_ ?_<;>intro h3
 .exact cM
 refine go ?_;refine aN (k+1) z7 ⟨z7,z7,λj g hj hg=>?_⟩;by_cases e:j=k
 .subst e;rw[hxk]at hg;cases hg;omega
 .exact hall j g z7 hg
