/-
  Part LibADX.
-/
import Derived.Test.YtoilpafpgndilaaGreatLibABX
set_option linter.all false
set_option maxRecDepth 10000
set_option maxHeartbeats 4000000
namespace Go.Proofs.YtoilpafpgndilaaGreat
open Go.Ideal Kd Canon
theorem ajl{P:Program}{ρ:Operand->Value}{x y:Operand}{t:TypeId}{a b:Int}(hx:ρ x=.int .i64 a)(hy:ρ y=.int .i64 b):Pu P ρ (.bin .add t x y) (.int .i64 (IntKind.i64.wrap (a+b))):=λh=>by
 simp only[aF.run,hx,hy];rw[xH (v:=.int .i64 (IntKind.i64.wrap (a+b)))];simp only[oZ,KW];rw[Al]
theorem Xm{k:bD}{vh vs vr vc vu gh gc vn vl:Value}(hB:Bu k):bA Tryz.prog (.func 15) [.agg ⟨kZ k vh vs vr vc vu gh gc vn vl⟩] [] [] (j6 k vh vs vr vc vu gh gc vn vl []) (λb:Bool=>.bool b) (λ_=>[]) (λ_=>[]) (λb=>b=true->Pm k/\k.grid.cells.length<=16/\k.decl.symbols.length<=4):=by
 obtain⟨l1,l2⟩:=hB.lists;have hcb:=hB.cells;have hsb:=hB.eH;refine aM _ (aP 15) λB w0=>?_;dsimp only[j6];refine aS (E:=ak (ak ae)) (v:=vl) (xs:=k.lists) (by simp) λal cl el=>?_;subst el;refine aS (E:=ae) (v:=gc) (xs:=k.grid.cells) (by simp) λag cg eg=>?_;subst eg;refine aS (E:=fF) (v:=vs) (xs:=k.decl.symbols) (by simp) λkY cs1 es1=>?_;subst es1;refine go ?_;intro b1;refine go ?_;refine aU (λx:Nat×Int=>k.lists.length - x.1) (λx=>[(4,.int .i64 (x.1:Int)),(3,.int .i64 x.2)]) (λ_=>[]) (λ_=>[]) (λ_=>True) (8,0) trivial (body:=?_);rintro⟨i,n⟩ -;dsimp only;refine go ?_;refine aA rfl (λh2=>?_) (λh2=>?_)
 ·refine go ?_;refine bi (ak (ak ae)) (xs:=k.lists) (k:=i) (next:=λ_ _ x (vx:Value) hx=>?_);have hxl:=l2 x (aZ hx);refine aS (E:=ak ae) (v:=vx) (xs:=x) (by simp) λax cx ex=>?_;subst ex;refine go ?_;refine(fA rfl rfl (ajl rfl rfl)).h ?_;refine go ?_;exact aN (i+1,IntKind.i64.wrap (n+(x.length:Int))) (by show k.lists.length - (i+1)<k.lists.length - i;omega) trivial
 refine go ?_;refine ay (aiX (k:=k) (vh:=vh) (vs:=.slice kY k.decl.symbols.length cs1) (gc:=.slice ag k.grid.cells.length cg) (vn:=vn) (vl:=.slice al k.lists.length cl) hB) (next:=λb hb=>?_);cases b with
 |false=>
  refine go ?_;exact ah false (hv:=rfl) (hp:=λh=>by cases h)
 |true=>
 have hf:=hb rfl;refine go ?_;refine gG (λt1=>?_) (λt1=>?_)
 ·refine go ?_;exact ah false (hv:=rfl) (hp:=λh=>by cases h)
 refine go ?_;refine gG (λt2=>?_) (λt2=>?_)
 ·refine go ?_;exact ah false (hv:=rfl) (hp:=λh=>by cases h)
 refine go ?_;exact ah (decide (n<=12)) (hv:=rfl) (hp:=λ_=>⟨hf,by omega,by omega⟩)
