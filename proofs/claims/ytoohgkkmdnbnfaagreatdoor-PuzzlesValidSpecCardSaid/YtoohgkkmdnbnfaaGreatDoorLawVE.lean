/-
  The law PuzzlesValidSpec on the ideal machine.
-/
import Derived.Test.YtoohgkkmdnbnfaaGreatDoorLibXE
import Derived.Test.YtoohgkkmdnbnfaaGreatDoorLibZE
import Derived.Test.YtoohgkkmdnbnfaaGreatDoorSaneEE
set_option linter.all false
set_option maxRecDepth 10000
set_option maxHeartbeats 4000000
namespace Go.Proofs.YtoohgkkmdnbnfaaGreatDoor
open Go.Ideal Kd Canon Gph
theorem aeJ{q:oP}{vv vn vc:Value}(hs:Be q)(hn:q.aK.length<9223372036854775808):
 aV Tryz.prog (.func 24) [.agg ⟨kU q vv vn vc⟩] [] [] [ai ae vv q.values,ai (aC ae) vn q.aK,ai iW vc q.cons] (λb:Bool=>.bool b) (λ_=>[]) (λ_=>[]) (λ_=>True):=by
 have hcl:=hs.cons;refine aS _ (aQ 24) λB w0=>?_;refine go ?_;intro b1;refine aZ (fo (b:=b1)) (h:=?_);refine go ?_;refine bJ (λk=>q.cons.length - k) (λk:Nat=>[(3,.int .i64 (k:Int))]) (λ_=>[]) (λ_=>[]) (λk=>k<=q.cons.length) 0 (dD _) (body:=?_);intro k hk;refine go ?_;refine aG rfl (λh1=>?_) (λh1=>?_)
 ·refine go ?_;refine dm iW (xs:=q.cons) (next:=λ_ _ c (y:Value×Value) hc=>?_);refine go ?_;first|with_reducible refine aN (λh2=>?_) (λh2=>?_)|with_reducible refine aO (λh2=>?_) (λh2=>?_)|with_reducible refine aL (λh2=>?_) (λh2=>?_)
  rotate_left
  ·refine go ?_;refine go ?_;exact aa false (hv:=rfl) (hp:=trivial)
  refine go ?_;refine dm iW (xs:=q.cons) (next:=λ_ _ c' (y:Value×Value) hc'=>?_);refine go ?_;refine aG rfl (λh3=>?_) (λh3=>?_)
  ·refine go ?_;exact aa false (hv:=rfl) (hp:=trivial)
  refine go ?_;exact bi (k+1) (by show q.cons.length - (k+1)<q.cons.length - k;omega) (by show k+1<=_;omega)
 refine go ?_;refine bJ (λk=>q.aK.length - k) (λk:Nat=>[(4,.int .i64 (k:Int))]) (λ_=>[]) (λ_=>[]) (λk=>k<=q.aK.length) 0 (dD _) (body:=?_);intro k hk;refine go ?_;refine aG rfl (λh1=>?_) (λh1=>?_)
 ·refine go ?_;refine dm (aC ae) (xs:=q.aK) (next:=λ_ _ c (y:Value) hc=>?_);refine go ?_;refine aG rfl (λh2=>?_) (λh2=>?_)
  ·refine go ?_;exact aa false (hv:=rfl) (hp:=trivial)
  refine go ?_;exact bi (k+1) (by show q.aK.length - (k+1)<q.aK.length - k;omega) (by show k+1<=_;omega)
 refine go ?_;first|with_reducible refine aN (λt1=>?_) (λt1=>?_)|with_reducible refine aO (λt1=>?_) (λt1=>?_)|with_reducible refine aL (λt1=>?_) (λt1=>?_)
 ·refine go ?_;exact aa false (hv:=rfl) (hp:=trivial)
 refine go ?_;first|with_reducible refine aN (λt2=>?_) (λt2=>?_)|with_reducible refine aO (λt2=>?_) (λt2=>?_)|with_reducible refine aL (λt2=>?_) (λt2=>?_)
 ·refine go ?_;exact aa false (hv:=rfl) (hp:=trivial)
 refine go ?_;exact aa (decide ((q.cons.length:Int)<=200)) (hv:=rfl) (hp:=trivial)
theorem TP{k:bP}{p:List Clue}(hS:og k)(hm:(lC k p).length<=4096)(hok:Ga (oh k p)):Be (oh k p):=by
 have h1:=hok.Dt;have h2:=hok.symbols;refine⟨by omega,hS.aK.2,by show(lC k p).length<_;omega,λc hc=>?_⟩;have h:=hok.fine c hc;have h3:=h.len;have h4:=hok.cells;have h5:=h.CY;exact⟨by rcases h3 with h|h;omega;rw[h];simp,by omega⟩
theorem aeK{q:oP}{vv vn vc:Value}{k:bP}{p:List Clue}{vh vs vr qy vu gh gc wL vl vp:Value}(hs:Be q)(hn:q.aK.length<9223372036854775808)(hB:Bf k)(hP:Dv p):
 dS Tryz.prog 6 [.agg ⟨kU q vv vn vc⟩,.agg ⟨mO k vh vs vr qy vu gh gc wL vl⟩,.agg ⟨[vp]⟩] (Fe 6::ai ae vv q.values::ai (aC ae) vn q.aK::ai iW vc q.cons::ai kI vp p::nZ k vh vs vr qy vu gh gc wL vl []) (.bool true):=by
 refine aS _ (aQ 6) λB w0=>?_;dsimp only[nZ];refine go ?_;intro b3 b4 b5;refine go ?_;refine ax aco (next:=λ_ _=>?_);refine go ?_;refine ax (aeJ (q:=q) (vv:=vv) (vn:=vn) (vc:=vc) hs hn) (next:=λb _=>?_);cases b with
 |false=>
  refine go ?_;refine ax (Tq (k:=k) (p:=p) (vh:=vh) (vs:=vs) (vr:=vr) (vc:=qy) (vu:=vu) (gh:=gh) (gc:=gc) (vn:=wL) (vl:=vl) (vp:=vp) hB hP.len) (next:=λb hb=>?_);cases b with
  |false=>
   refine go ?_;exact aa () (hv:=rfl) (hp:=trivial)
  |true=>
  obtain⟨LB,_,hpl,hpv⟩:=hb rfl;clear hb;have hS:=og.Tp hB LB;refine go ?_;refine ax (TH (k:=k) (p:=p) (vh:=vh) (vs:=vs) (vr:=vr) (vc:=qy) (vu:=vu) (gh:=gh) (gc:=gc) (vn:=wL) (vl:=vl) (vp:=vp) hS hP) (next:=λy hy=>?_);obtain⟨ok,e,wv,wc⟩:=y;cases ok with
  |false=>
   have he:e≠0:=λh=>by have:=hy.eq.2 h;cases this
   dsimp only[cond,DC,Dz];refine go ?_;intro b7;refine go ?_;first|with_reducible refine aN (λg1=>?_) (λg1=>?_)|with_reducible refine aO (λg1=>?_) (λg1=>?_)|with_reducible refine aL (λg1=>?_) (λg1=>?_)
   ·exact absurd he g1
   refine go ?_;exact aa () (hv:=rfl) (hp:=trivial)
  |true=>
  have he:e=0:=hy.eq.1 rfl;subst he;have hK:eY k:=Classical.byContradiction λh=>by have:=hy.nk h;cases this
  have hQ:j5 k p:=Classical.byContradiction λh=>by have:=hy.np hK h;cases this
  have hL:(lC k p).length<=4096:=Classical.byContradiction λh=>by have:=hy.nl hK hQ (by omega);cases this
  have hpo:=Tw hK hQ hL;dsimp only[cond,DC,Dz,List.cons_append,List.nil_append];refine go ?_;intro b7;refine go ?_;refine ax (Lg (q:=⟨(k.grid.cells.length:Int),(k.decl.symbols.length:Int),sO k,k.aK,lC k p⟩) (vv:=wv) (vn:=wL) (vc:=wc) (TP hS hL hpo)) (next:=λr1 h1=>?_);have h1:=h1.2 hpo;subst h1;refine go ?_;exact aa () (hv:=rfl) (hp:=trivial)
 |true=>
  refine go ?_;refine ax (Lg (q:=q) (vv:=vv) (vn:=vn) (vc:=vc) hs) (next:=λr1 h1=>?_);refine go ?_;refine ax (aei (q:=q) (vv:=vv) (vn:=vn) (vc:=vc) hs) (next:=λr2 h2=>?_);have:r1=r2:=uL.2 (h1.trans h2.symm);subst this;refine go ?_;refine aG rfl (λh=>absurd rfl h) (λh=>?_);refine go ?_;refine ax (Tq (k:=k) (p:=p) (vh:=vh) (vs:=vs) (vr:=vr) (vc:=qy) (vu:=vu) (gh:=gh) (gc:=gc) (vn:=wL) (vl:=vl) (vp:=vp) hB hP.len) (next:=λb hb=>?_);cases b with
  |false=>
   refine go ?_;exact aa () (hv:=rfl) (hp:=trivial)
  |true=>
  obtain⟨LB,_,hpl,hpv⟩:=hb rfl;clear hb;have hS:=og.Tp hB LB;refine go ?_;refine ax (TH (k:=k) (p:=p) (vh:=vh) (vs:=vs) (vr:=vr) (vc:=qy) (vu:=vu) (gh:=gh) (gc:=gc) (vn:=wL) (vl:=vl) (vp:=vp) hS hP) (next:=λy hy=>?_);obtain⟨ok,e,wv,wc⟩:=y;cases ok with
  |false=>
   have he:e≠0:=λh=>by have:=hy.eq.2 h;cases this
   dsimp only[cond,DC,Dz];refine go ?_;intro b7;refine go ?_;first|with_reducible refine aN (λg1=>?_) (λg1=>?_)|with_reducible refine aO (λg1=>?_) (λg1=>?_)|with_reducible refine aL (λg1=>?_) (λg1=>?_)
   ·exact absurd he g1
   refine go ?_;exact aa () (hv:=rfl) (hp:=trivial)
  |true=>
  have he:e=0:=hy.eq.1 rfl;subst he;have hK:eY k:=Classical.byContradiction λh=>by have:=hy.nk h;cases this
  have hQ:j5 k p:=Classical.byContradiction λh=>by have:=hy.np hK h;cases this
  have hL:(lC k p).length<=4096:=Classical.byContradiction λh=>by have:=hy.nl hK hQ (by omega);cases this
  have hpo:=Tw hK hQ hL;dsimp only[cond,DC,Dz,List.cons_append,List.nil_append];refine go ?_;intro b7;refine go ?_;refine ax (Lg (q:=⟨(k.grid.cells.length:Int),(k.decl.symbols.length:Int),sO k,k.aK,lC k p⟩) (vv:=wv) (vn:=wL) (vc:=wc) (TP hS hL hpo)) (next:=λr1 h1=>?_);have h1:=h1.2 hpo;subst h1;refine go ?_;exact aa () (hv:=rfl) (hp:=trivial)
