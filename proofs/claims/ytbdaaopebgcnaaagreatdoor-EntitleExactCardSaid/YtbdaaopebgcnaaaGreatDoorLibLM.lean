/-
  Totals as keys of maps; the walk over them; their sort; what Orders catches.
-/
import Derived.Test.YtbdaaopebgcnaaaGreatDoorLibKM
import Derived.Test.YtbdaaopebgcnaaaGreatDoorLibZM
import Derived.Test.YtbdaaopebgcnaaaGreatDoorShelfS
set_option linter.all false
set_option maxRecDepth 10000
set_option maxHeartbeats 4000000
namespace Go.Proofs.YtbdaaopebgcnaaaGreatDoor
open Go.Ideal Rk Canon Go.Sort
abbrev Vec(c:Nat):={t:List Int//t.length=c}
def iX(c:Nat)(t:Vec c):List Int:=t.1++List.replicate (8 - c) 0
def dH(c:Nat)(t:Vec c):Value:=.agg ⟨(iX c t).map (.int .i64)⟩
theorem nK{c:Nat}(hc:c<=8)(t:Vec c):(iX c t).length=8:=by
 unfold iX;rw[dN,nP,t.2];omega
theorem Nu{c:Nat}{a b:Vec c}(h:iX c a=iX c b):a=b:=by
 unfold iX at h;exact Subtype.ext (List.append_inj_left h (by rw[a.2,b.2]))
theorem IV{c:Nat}:∀a b:Vec c,dH c a=dH c b->a=b:=λa b h=>by
 injection h with h;injection h with h;refine Nu ?_;exact List.map_inj_right (λx y h=>by injection h)|>.1 h
theorem Vx{c:Nat}(hc:c<=8):xq Tryz.prog 92 (dH c) where
 mR a:=by
  unfold dH;obtain⟨x0,x1,x2,x3,x4,x5,x6,x7,h⟩:=len8 (nK hc a);rw[h]
  kernel_rfl
 find a aJ es h:=RJ (d:=.array 8 3) (by kernel_rfl) (λa b=>rfl) (λa b=>by
  have:=RG (P:=Tryz.prog) (d:=9998) (t:=92) (xs:=iX c a) (ys:=iX c b) (n:=8) (e:=3) (by kernel_rfl) (by kernel_rfl) (by kernel_rfl) (nK hc a) (nK hc b);rw[show decide (a=b)=decide (iX c a=iX c b)from zA.2 ⟨λh=>by rw[h],Nu⟩];exact this) a aJ es h
 same a:=by
  unfold dH;obtain⟨x0,x1,x2,x3,x4,x5,x6,x7,h⟩:=len8 (nK hc a);rw[h];show((⟨_⟩:Array Value).size==(⟨_⟩:Array Value).size&&(List.zip _ _).all λ(x,y)=>Instr.sameBits 9999 x y)=true;simp[Instr.sameBits]
def nL{α:Type}[DecidableEq α](m:List α)(x:α):List α:=if x∈m then m else m++[x]
theorem IW{α:Type}[DecidableEq α]{m:List α}{x y:α}:y∈nL m x↔y∈m\/y=x:=by
 unfold nL;split
 ·rename_i h;exact⟨.inl,λk=>k.elim id λe=>e▸h⟩
 ·rw[gF,cz]
theorem agm{α:Type}[DecidableEq α]{m:List α}{x:α}(h:m.Nodup):(nL m x).Nodup:=by
 unfold nL;split
 ·exact h
 ·rename_i hx;rw[r9];exact⟨h,by simp,λa ha b hb e=>hx (by rw[<- cz.1 hb,<- e];exact ha)⟩
theorem agn{α:Type}[DecidableEq α]{m:List α}{x:α}:(nL m x).length<=m.length+1:=by
 unfold nL;split<;>simp
def dX{c:Nat}(ks:List (Vec c)):List (Vec c×Value):=ks.map λk=>(k,.bool true)
theorem Nv{c:Nat}:∀ks:List (Vec c),(dX ks).map (·.1)=ks
 |[]=>rfl
 |x::ks=>congrArg (x::·) (Nv ks)
theorem agp{c:Nat}(ks:List (Vec c)):(dX ks).length=ks.length:=bI ..
theorem Nw{c:Nat}(k:Vec c):∀ks:List (Vec c),upd k (.bool true) (dX ks)=dX (nL ks k)
 |[]=>rfl
 |x::ks=>by
  have ih:=Nw k ks;have e1:dX (x::ks)=(x,.bool true)::dX ks:=rfl;rw[e1,upd];by_cases h:k=x
  ·subst h;rw[if_pos rfl];unfold nL;rw[if_pos (aR ..)];rfl
  ·rw[if_neg h,ih];unfold nL;by_cases hm:k∈ks
   ·rw[if_pos hm,if_pos (dw _ hm)];rfl
   ·rw[if_neg hm,if_neg (λe=>(bD.1 e).elim h hm)];rfl
theorem agq{c bm:Nat}:aX Tryz.prog (.func 49) [.map (some bm)] [] [] [] (λb:Nat=>.func (.func 69) #[] #[ptr' b]) (λ_=>[]) (λb=>[bW b 0 [.map (some bm)]]) (λ_=>True):=by
 refine aT _ (bz 49) λB w0=>?_;refine go ?_;intro b1;refine go ?_;refine bP (fQ (b:=b1)) (h:=?_);exact aj b1 (hv:=rfl) (hp:=trivial)
theorem agr{c b bm:Nat}(hc:c<=8){aJ:List (Vec c×Value)}:GY Tryz.prog (λx:Vec c=>[dH c x]) (.func 69) [] [ptr' b] [bW b 0 [.map (some bm)],xu (dH c) bm aJ] (λxs=>xs.Perm (aJ.map (·.1))):=by
 intro S inv ok step s0 xy y1 y2 F' h0 hok hy;rw[fE,fE,dI];refine aT _ (bz 69) λB w0=>?_;refine go ?_;refine GQ (b:=bm) (aJ:=aJ) (aQ:=dH c) (next:=λr=>?_);refine go ?_;refine bR (λy:List (Vec c×Value)×S=>aJ.length - y.1.length) (λy=>[]) (λy=>vM (dH c) r bm aJ y.1::inv y.2) (λ_=>[]) (λy=>ok (y.1.map (·.1)) y.2/\(∃rest,(y.1++rest).Perm aJ)/\∀rest,gz step s0 (y.1.map (·.1)++rest)=gz step y.2 rest) ([],s0) ⟨h0,⟨aJ,.refl _⟩,λ_=>rfl⟩ (body:=?_);rintro⟨dx,s⟩ ⟨hos,_,hrun⟩;dsimp only at hos hrun⊢;refine go ?_;refine GR (b:=bm) (aJ:=aJ) (dx:=dx) (aQ:=dH c) (more:=λp rem hp=>?_) (done:=λhp=>?_) IV
 ·have hX:(dx.map (·.1)++p.1::rem.map (·.1)).Perm (aJ.map (·.1)):=by
   have:=hp.map (·.1);rw[eB,lK]at this;exact this
  have hlen:=hp.length_eq;rw[dN,oN]at hlen;have qD:=hy _ s _ _ hos hX;have wy:∃x0 x1 x2 x3 x4 x5 x6 x7,dH c p.1=.agg ⟨[.int .i64 x0,.int .i64 x1,.int .i64 x2,.int .i64 x3,.int .i64 x4,.int .i64 x5,.int .i64 x6,.int .i64 x7]⟩:=by
   obtain⟨x0,x1,x2,x3,x4,x5,x6,x7,h⟩:=len8 (nK hc p.1);exact⟨x0,x1,x2,x3,x4,x5,x6,x7,by unfold dH;rw[h];rfl⟩
  obtain⟨x0,x1,x2,x3,x4,x5,x6,x7,wy⟩:=wy;refine go ?_;refine GU (aQ:=dH c) (aJ:=aJ) (dx:=dx) (p:=p) ?_;dsimp only at qD;rw[wy]at qD⊢;refine go ?_;intro b3;refine go ?_;refine aB qD (next:=λ_ _=>?_);cases hst:(step s p.1).2 with
  |true=>
   have hs1:step s p.1=((step s p.1).1,true):=Prod.ext rfl hst;refine go ?_;refine aL (dx++[p],(step s p.1).1) (by show aJ.length - (dx++[p]).length<_;rw[dN,su];omega) ⟨?_,⟨rem,by show((dx++[p])++rem).Perm aJ;rw[ig];exact hp⟩,λrest=>?_⟩
   ·show ok ((dx++[p]).map (·.1)) _;rw[eB];exact hok _ s _ _ hos hX hst
   ·show gz step s0 ((dx++[p]).map (·.1)++rest)=_;rw[eB,ig,hrun];show gz step s (p.1::rest)=_;rw[gz,hs1]
  |false=>
   have hs1:step s p.1=((step s p.1).1,false):=Prod.ext rfl hst;have hr:=hrun (p.1::rem.map (·.1));rw[gz,hs1]at hr;dsimp only at hr;refine go ?_;exact aj (dx.map (·.1)++p.1::rem.map (·.1)) (hv:=rfl) (hp:=hX) (hk:=by rw[hr];exact aI.self _ _)
 ·refine go ?_;have hr:=hrun [];rw[fU]at hr;exact aj (dx.map (·.1)) (hv:=rfl) (hp:=hp.map (·.1)) (hk:=by rw[hr];apply aI.there;exact aI.all _)
theorem Vy:∀{xs ys:List Int},xs.length=ys.length->(iD jS xs ys<0↔jY xs ys=true)
 |[],[],_=>by simp[iD,jY]
 |x::xs,y::ys,h=>by
  have ih:=Vy (xs:=xs) (ys:=ys) (by simpa using h);rw[Ib,iD];unfold jS at ih⊢;by_cases h1:x<y
  ·rw[if_pos h1,if_pos (by decide)];simp[h1]
  ·by_cases h2:y<x
   ·rw[if_neg h1,if_pos h2,if_pos (by decide)];simp[h1];omega
   ·rw[if_neg h1,if_neg h2,if_neg (by simp),ih];have:x=y:=by omega
    simp[this]
 |[],_::_,h=>by simp at h
 |_::_,[],h=>by simp at h
theorem agt{va vb:Value}{xs ys:List Int}(hx:xs.length<=1000000)(hy:ys.length<=1000000):gy Tryz.prog 52 [va,vb] [ae ah va xs,ae ah vb ys] (.int .i64 (iD jS xs ys)):=by
 refine aT _ (bz 52) λB w0=>?_;refine go ?_;refine aB (agb (xs:=xs) (ys:=ys) hx hy) (next:=λ_ _=>?_);refine go ?_;exact aj () (hv:=rfl) (hp:=trivial)
theorem agu:SWO (ltOf (iD jS)):=by
 have h:=aax aaw;have hz:=h.zero;have hn:=h.neg;have ht:=h.trans;refine⟨λx=>?_,λx y z h1 h2=>?_,λx y z h1 h2=>?_⟩
 ·have:=(hz x x).2 rfl;exact fB (by omega)
 ·exact eP (ht x y z (si h1) (si h2))
 ·have h1:¬iD jS x y<0:=Jr h1;have h2:¬iD jS y z<0:=Jr h2;refine fB λh3=>?_;by_cases e1:iD jS x y=0
  ·rw[(hz x y).1 e1]at h3;exact h2 h3
  by_cases e2:iD jS y z=0
  ·rw[<- (hz y z).1 e2]at h3;exact h1 h3
  have h4:=(hn z y).2 (by omega);have h5:=(hn y x).2 (by omega);have h6:=ht z y x h4 h5;have h7:=(hn z x).1 h6;omega
theorem agv:Hq Tryz.prog 51 1 rM:=ac4 λα _ enc cf g cb blk off cap d w h1 hO eg hcmp hH hblk hsz=>Any.slices_SortFunc Tryz.laysF6 enc h1 cf hO g cb blk off cap d w eg hcmp hH hblk hsz
theorem agw:LZ Tryz.prog 51:=λp cap fv w=>AnyF.slices_SortFunc_none {Tryz.laysF6 with} p cap fv w
theorem Vz(f:FuncId)(h2:(Tryz.prog.funcs[f]?).map (λf=>f.name== "runtime.NumGoroutine")=some false)(h3:(Tryz.prog.funcs[f]?).map (λf=>f.body.isSome)=some true):∃fn body,Tryz.prog.funcs[f]? =some fn/\fn.body=some body/\fn.name≠ "runtime.NumGoroutine" :=by
 cases hfn:Tryz.prog.funcs[f]? with
 |none=>rw[hfn]at h2;cases h2
 |some fn=>
  rw[hfn]at h2 h3;have h2:(fn.name== "runtime.NumGoroutine")=false:=Option.some.inj h2;have h3:fn.body.isSome=true:=Option.some.inj h3;obtain⟨body,hb⟩:=Ou.1 h3;exact⟨fn,body,rfl,hb,by simpa using h2⟩
theorem agx{a:Option Addr}{m:Nat}{xs:List (List Int)}(hm:m=xs.length)(hl:xs.length<4611686018427387904)(hx:∀x∈xs,x.length<=1000000):
 aX Tryz.prog (.func 51) [.slice a m m,.func (.func 52) ⟨[]⟩ ⟨[]⟩] [] [ap (bN ah) (.slice a m m) xs] [] (λ_:List (List Int)=>.tuple ⟨[]⟩) (λys=>[ap (bN ah) (.slice a m m) ys]) (λ_=>[]) (λys=>ys.Perm xs/\ys.Pairwise λx y=>¬iD jS y x<0):=by
 subst hm;obtain⟨fn,body,h1,h2,h3⟩:=Vz 51 (by kernel_rfl) (by kernel_rfl);obtain⟨gn,Hr,g1,g2,g3⟩:=Vz 52 (by kernel_rfl) (by kernel_rfl);exact ac2 (E:=bN ah) (xs:=xs) (F:=[]) (cap:=[]) follows ac5 agv agw h1 h2 h3 g1 g2 g3 rfl (by decide) agu (λx hxm y hym va vb=>agt (hx x hxm) (hx y hym)) hl
theorem agy{P:Program}{ρ:Operand->Value}{t:TypeId}{zero:Value}{x:Operand}(hx:ρ x=.nilIface):Pu P ρ (.BQ t zero true x) (.tuple ⟨[zero,.bool false]⟩):=λh=>by
 simp only[au.run,hx];rfl
theorem agz{P:Program}{ρ:Operand->Value}{t:TypeId}{zero v:Value}{x:Operand}(hx:ρ x=.iface t v):Pu P ρ (.BQ t zero true x) (.tuple ⟨[v,.bool true]⟩):=λh=>by
 simp only[au.run,hx,wF];rfl
theorem agA{b4 b5:Nat}:GJ Tryz.prog (.func 45) [] [ptr' b4,ptr' b5] .returning [] [] (λ_:Unit=>.ok (.tuple ⟨[]⟩)) (λ_=>.returning) (λ_=>[]) (λ_=>[]) (λ_=>True):=by
 refine Ri _ (bz 45) λB w0=>?_;refine go ?_;refine Rj (v:=.nilIface) (m':=.returning) rfl ?_;refine(bC rfl rfl (agy rfl)).h ?_;refine go ?_;exact Rm () (hv:=rfl) (hm:=rfl) (hp:=trivial)
abbrev Ny:List PanicEntry:=[{v:=.iface 24 (.int .i64 2),recovered:=false}]
theorem agB{b4 b5:Nat}:GJ Tryz.prog (.func 45) [] [ptr' b4,ptr' b5] (.panicking Ny) [pt b4 (.cells [.slice none 0 0]),pt b5 (.cells [.int .i64 0])] [] (λ_:Unit=>.ok (.tuple ⟨[]⟩)) (λ_=>.panicking [{v:=.iface 24 (.int .i64 2),recovered:=true}])
 (λ_=>[pt b4 (.cells [.slice none 0 0]),pt b5 (.cells [.int .i64 2])]) (λ_=>[]) (λ_=>True):=by
 refine Ri _ (bz 45) λB w0=>?_;refine go ?_;refine Rj (v:=.iface 24 (.int .i64 2)) (m':=.panicking [{v:=.iface 24 (.int .i64 2),recovered:=true}]) rfl ?_;refine(bC rfl rfl (agz rfl)).h ?_;refine go ?_;exact Rm () (hv:=rfl) (hm:=rfl) (hp:=trivial)
end Go.Proofs.YtbdaaopebgcnaaaGreatDoor
namespace Go.Proofs.YtbdaaopebgcnaaaGreatDoor
open Go.Ideal Rk Canon Go.Sort
noncomputable def IX:=yB Tryz.prog 18
theorem agC:jN Tryz.prog 18=some IX:=by kernel_rfl
structure Nz where
 v:Value
 e:Int
 X:List (List Int)
abbrev NA(y:Nz):Value:=.tuple ⟨[y.v,.int .i64 y.e]⟩
abbrev NB(y:Nz):List aD:=[ae (bN ah) y.v y.X]
def IY(s:aK)(l:List ak)(y:Nz):Prop:=y.e=rV s l/\y.X=rW s l
theorem VA{E:Enc (List Int)}(w:Wd):(ae E (.slice none 0 0) ([]:List (List Int))).p w:=.inl ⟨rfl,none,0,rfl,trivial⟩
abbrev VB(b4 b5:Nat):Deferred:={target:=.fn (.func 45) ⟨[ptr' b4,ptr' b5]⟩,args:=⟨[]⟩}
section
variable {B:List Nat} {w0:Wd} {kl bE:List OA} {F:List aD} {l':List (Nat×Value)} {b4 b5:Nat} {n:Nat}
theorem agD{s:aK}{l:List ak}(hc:dL s l=0)(hno:jm s l)(h4:lk l' 4=ptr' b4)(h5:lk l' 5=ptr' b5)(hk:aI [pt b4 (.cells [.slice none 0 0]),pt b5 (.cells [.int .i64 0])] kl bE):
 R (λh=>tC Tryz.prog IX (AQ B w0 (λy=>.ok (NA y)) (λ_=>[]) NB (IY s l)) (.panic Ny) (act n l' [VB b4 b5] none none) h) B w0 kl F:=by
 refine GK (m:=.panicking Ny) ?_;refine Rl (bE:=bE) (fq:=λ_=>[pt b4 (.cells [.slice none 0 0]),pt b5 (.cells [.int .i64 2])]++bE) (F2:=λ_=>F) (agB (b4:=b4) (b5:=b5)) (λy v _ _=>?_) (λy ch _ hc=>by cases hc) (hk:=hk) (hF:=.nil) (hk2:=λ_=>cO.app) (hF2:=λ_=>cO.nil);show RL _ _ _ _ .returning _ _ _ _ _;intro w s';have s'':St B w0 ([pt b4 (.cells [.slice none 0 0]),pt b5 (.cells [.int .i64 2])]++bE) [ae (bN ah) (.slice none 0 0) ([]:List (List Int))] w:=⟨s'.agree,s'.le,s'.fw,s'.own,λf hf=>by rw[cz.1 hf];exact VA w⟩
 obtain⟨e1,e2⟩:=MH hc hno;refine Rn (bE:=[pt b4 (.cells [.slice none 0 0]),pt b5 (.cells [.int .i64 2])]++bE) (vs:=[.slice none 0 0,.int .i64 2]) ⟨.slice none 0 0,2,[]⟩ rfl ⟨e1.symm,e2.symm⟩ (hr:=?_) (hk:=.nil) (hF:=by(apply Sub.cons;exact cz.2 rfl;exact Sub.nil)) w s'';show RS l' _ [.cell1 4,.cell1 5] _;exact .cell1 h4 .here rfl (.cell1 h5 (.there .here) rfl .nil)
theorem or_fin{s:aK}{l:List ak}{v:Value}{X:List (List Int)}{e:Int}(hp:IY s l ⟨v,e,X⟩)(hF:ae (bN ah) v X∈F)(h4:lk l' 4=ptr' b4)(h5:lk l' 5=ptr' b5)(hk:aI [pt b4 (.cells [v]),pt b5 (.cells [.int .i64 e])] kl bE):
 RL Tryz.prog IX l' [VB b4 b5] .returning (λr h=>AQ B w0 (λy=>.ok (NA y)) (λ_=>[]) NB (IY s l) r none h) B w0 kl F:=by
 refine Rl (k1:=[]) (bE:=kl) (fq:=λ_=>kl) (F2:=λ_=>F) (agA (b4:=b4) (b5:=b5)) (λ_ _ _ _=>?_) (λ_ ch _ hc=>by cases hc) (hk:=.nil) (hF:=.nil) (hk2:=λ_=>cO.nil) (hF2:=λ_=>cO.nil);show RL _ _ _ _ .returning _ _ _ _ _;intro w s';have s'':=s'.jJ hk;refine Rn (bE:=[pt b4 (.cells [v]),pt b5 (.cells [.int .i64 e])]++bE) (vs:=[v,.int .i64 e]) ⟨v,e,X⟩ rfl hp (hr:=?_) (hk:=.nil) (hF:=by(apply Sub.cons;exact hF;exact Sub.nil)) w s'';show RS l' _ [.cell1 4,.cell1 5] _;exact .cell1 h4 .here rfl (.cell1 h5 (.there .here) rfl .nil)
end
theorem agE{vs:List Value}(h:vs.length=8){a0 a1 a2 a3 a4 a5 a6 a7:Value}:gW [a0,a1,a2,a3,a4,a5,a6,a7] 0 vs=some vs:=by
 obtain⟨x0,x1,x2,x3,x4,x5,x6,x7,rfl⟩:=len8 h;rfl
theorem NC{c:Nat}{m:List (Vec c)}(h:m.Nodup):(m.map (·.1)).Nodup:=List.pairwise_map.2 (List.Pairwise.imp (λhab e=>hab (Subtype.ext e)) h)
abbrev Ei(b n:Nat)(ys:List (List Int)):OA:=Lu λc:Option Nat=>[pt b (.cells [gv (bN ah).n c n]),ap (bN ah) (gv (bN ah).n c n) ys]
theorem VC{s:aK}{v1 v2 v3 v4 vl:Value}{l:List ak}(h4:s.c<=4)(hb1:s.lv.length<9223372036854775808)(hb2:s.cl.length<9223372036854775808)(hb3:s.pz.length<9223372036854775808)(hx1:cellsOf v1=some [v1])(hx2:cellsOf v2=some [v2])(hx3:cellsOf v3=some [v3])(hx4:cellsOf v4=some [v4]):
 aX Tryz.prog (.func 18) [.agg ⟨jD s v1 v2 v3 v4⟩,vl] [] [] [l6 0 mU,ae ah v1 s.lv,ae ah v2 s.cl,ae fP v3 s.pg,ae ah v4 s.pz,ae aZ vl l] NA (λ_=>[]) NB (IY s l):=by
 refine GI.toC _ ?_ (λ_ _=>rfl);refine abF IX agC λB w0=>?_;refine go ?_;intro b2 b4 b5;refine go ?_;refine aB (Ng (s:=s) (l:=l) hb1 hb2 hb3 hx1 hx2 hx3 hx4) (next:=λy hy=>?_);subst hy;refine go ?_;refine aC rfl (λh1=>?_) (λh1=>?_)
 ·refine go ?_;refine bJ (ae (bN ah) (.slice none 0 0) ([]:List (List Int))) (λw _=>VA w) ?_;exact abM ⟨.slice none 0 0,dL s l,[]⟩ (hv:=rfl) (hp:=⟨(Tq h1).1.symm,(Tq h1).2.symm⟩)
 have h1:dL s l=0:=qd.1 h1;have h:=l7 h1;have hll:=h.len;have hc1:=h.sh.c1;have hc8:s.c.toNat<=8:=by omega
 have hp1:=h.sh.p1;have oJ:=h.sh.p8;refine bP (fQ (b:=b2)) (h:=?_);refine go ?_;refine abI ?_;refine go ?_;refine GL (dH s.c.toNat) (λbm=>?_);refine go ?_;refine GN (aQ:=dH s.c.toNat) (b:=bm) (v:=.bool true) (aJ:=[]) (Vx hc8) ⟨List.replicate s.c.toNat 0,nP⟩ ?_ (ha:=?_)
 rotate_left
 ·show Value.agg ⟨[0,0,0,0,0,0,0,0].map (Value.int .i64)⟩=_;unfold dH iX;rw[<- Tg hc8];rfl
 rw[show upd (⟨List.replicate s.c.toNat 0,nP⟩:Vec s.c.toNat) (Value.bool true) []=dX [⟨List.replicate s.c.toNat 0,nP⟩]from rfl];refine go ?_;refine bR (λy:Nat×Nat×List (Vec s.c.toNat)=>s.p.toNat - y.1) (λy=>[(27,.int .i64 (y.1:Int)),(7,.map (some y.2.1))]) (λy=>[kQ (dH s.c.toNat) y.2.1 (dX y.2.2)]) (λ_=>[]) (λy=>(y.1:Int)<=s.p/\y.2.2.Nodup/\(∀t:Vec s.c.toNat,t∈y.2.2↔t.1∈dJ s l y.1)/\∀q,q<y.1->(dJ s l (q+1)).length<=4096)
  (0,bm,[⟨List.replicate s.c.toNat 0,nP⟩]) ⟨by show(0:Int)<=_;omega,by simp,λt=>by rw[cz];show _↔t.1∈[List.replicate s.c.toNat 0];rw[cz];exact⟨λe=>congrArg Subtype.val e,λe=>Subtype.ext e⟩,λq hq=>absurd hq (Nat.not_lt_zero _)⟩ (hk:=by repeat (first|exact aI.nil|(apply aI.cons;(focus (repeat (first|exact ai.here|apply ai.there)))))) (body:=?_)
 rintro⟨p,bm,ks⟩ ⟨hp,hnd,hks,hlim⟩;dsimp only at hp hnd hks hlim⊢;refine go ?_;refine aC rfl (λh2=>?_) (λh2=>?_)
 ·have oK:=qy l (p:Int);have htop:∀i,i<(wl l p).length->hi (wl l p) i<=qw:=λi hi=>(rU h.rs hi).2.2;have hlo:∀i,i<(wl l p).length->0<=lo (wl l p) i:=λi hi=>(rU h.rs hi).1;have ajO:=aeb h.rs (p:Int);have hpl:=SG htop (by omega);have hrg:∀{t:List Int},t∈dJ s l p->∀x∈t,0<=x/\x<=(p:Int)*33554432:=Tp hll p;refine go ?_;refine aB (UM (l:=l) (p:=(p:Int)) (by omega)) (next:=λvo _=>?_);refine go ?_;refine GL (dH s.c.toNat) (λbn=>?_);refine go ?_;refine aB (agl (vl:=vl) (vo:=vo) (l:=l) (p:=(p:Int)) (s:=s) h.rs hll (by omega)) (next:=λvq _=>?_);refine bP LD (A:=kQ (dH s.c.toNat) bm (dX ks)) (fs:=[xu (dH s.c.toNat) bm (dX ks)]) (h:=?_);refine go ?_;refine bR (λy:Nat×List (Vec s.c.toNat)=>(kw (wl l p)).length - y.1) (λy=>[(38,.int .i64 (y.1:Int))]) (λy=>[kQ (dH s.c.toNat) bn (dX y.2)]) (λ_=>[]) (λy=>y.1<=(kw (wl l p)).length/\y.2.Nodup/\(∀t∈y.2,t.1∈dJ s l (p+1))/\(∀(i:Nat) aF u,i<y.1->(kw (wl l p))[i]? =some aF->u∈dJ s l p->∃t∈y.2,t.1=iw s l p aF u)/\y.2.length<=4096)
   (0,[]) ⟨cu _,Js,(λt ht=>by cases ht),λi aF u hi=>absurd hi (Nat.not_lt_zero _),cu _⟩ (hk:=by repeat (first|exact aI.nil|(apply aI.cons;(focus (repeat (first|exact ai.here|apply ai.there)))))) (body:=?_)
  rintro⟨k,ms⟩ ⟨hk,hmn,hms,hmo,hml⟩;dsimp only at hk hmn hms hmo hml⊢;refine go ?_;refine aC rfl (λh3=>?_) (λh3=>?_)
  ·refine go ?_;refine cZ (bN ah) (k:=k) (next:=λ_ _ aF (vp:Value) VD=>?_);have ND:=dA VD;have agF:aF.length=(aO l p).length:=by rw[adM htop ND,oK]
   have agG:∀x∈aF,0<=x/\x<=1048576:=λx hx=>by have:=adN htop hlo ND hx;omega
   refine go ?_;refine GQ (b:=bm) (aJ:=dX ks) (aQ:=dH s.c.toNat) (next:=λr=>?_);refine go ?_;refine bR (λy:List (Vec s.c.toNat×Value)×List (Vec s.c.toNat)=>(dX ks).length - y.1.length) (λy=>[]) (λy=>[vM (dH s.c.toNat) r bm (dX ks) y.1,kQ (dH s.c.toNat) bn (dX y.2)]) (λ_=>[]) (λy=>(∃rest,(y.1++rest).Perm (dX ks))/\y.2.Nodup/\(∀t∈y.2,t.1∈dJ s l (p+1))/\(∀(i:Nat) aF u,i<k->(kw (wl l p))[i]? =some aF->u∈dJ s l p->∃t∈y.2,t.1=iw s l p aF u)/\y.2.length<=4096/\∀q∈y.1,∃t∈y.2,t.1=iw s l p aF q.1.1)
    ([],ms) ⟨⟨_,.refl _⟩,hmn,hms,hmo,hml,λq hq=>by cases hq⟩ (hk:=by repeat (first|exact aI.nil|(apply aI.cons;(focus (repeat (first|exact ai.here|apply ai.there)))))) (body:=?_)
   rintro⟨dx,ms⟩ ⟨_,hmn,hms,hmo,hml,hmv⟩;dsimp only at hmn hms hmo hml hmv⊢;refine go ?_;refine GR (b:=bm) (aJ:=dX ks) (dx:=dx) (aQ:=dH s.c.toNat) (more:=λq rem hq=>?_) (done:=λhq=>?_) IV
   ·have hqk:q.1∈ks:=by
     have:q∈dX ks:=hq.mem_iff.1 (by simp);obtain⟨z,hz,e⟩:=gD.1 this;rw[<- e];exact hz
    have VE:=(hks q.1).1 hqk;have hlen:=hq.length_eq;rw[dN,oN]at hlen;obtain⟨x0,x1,x2,x3,x4,x5,x6,x7,uQ⟩:=len8 (nK hc8 q.1);have wy:dH s.c.toNat q.1=.agg ⟨[.int .i64 x0,.int .i64 x1,.int .i64 x2,.int .i64 x3,.int .i64 x4,.int .i64 x5,.int .i64 x6,.int .i64 x7]⟩:=by unfold dH;rw[uQ];rfl
    have hrx:∀x∈[x0,x1,x2,x3,x4,x5,x6,x7],0<=x/\x<=1099511627776:=λx hx=>by
     rw[<- uQ]at hx;rcases gF.1 hx with hx|hx
     ·have:=hrg VE x hx;omega
     ·rw[Ju hx];omega
    have hadd:(⟨(iw s l p aF [x0,x1,x2,x3,x4,x5,x6,x7]).map (Value.int .i64)⟩:Array Value)=⟨(iX s.c.toNat ⟨iw s l p aF q.1.1,by rw[tK,q.1.2]⟩).map (.int .i64)⟩:=by
     rw[<- uQ];unfold iX;rw[S9 h (by rw[q.1.2];omega)]
    refine go ?_;refine GU (aQ:=dH s.c.toNat) (aJ:=dX ks) (dx:=dx) (p:=q) ?_;rw[wy];refine go ?_;intro b13;refine go ?_;refine aB (UQ (s:=s) (l:=l) (p:=p) (aF:=aF) (t:=[x0,x1,x2,x3,x4,x5,x6,x7]) h h2 agF agG rfl hrx) (next:=λ_ _=>?_);refine go ?_;refine GN (aQ:=dH s.c.toNat) (b:=bn) (v:=.bool true) (aJ:=dX ms) (Vx hc8) ⟨iw s l p aF q.1.1,by rw[tK,q.1.2]⟩ ?_ (ha:=congrArg Value.agg hadd);rw[Nw];refine go ?_;refine abT (b:=bn) (aQ:=dH s.c.toNat) ?_;rw[agp];have hal:=agn (m:=ms) (x:=(⟨iw s l p aF q.1.1,by rw[tK,q.1.2]⟩:Vec s.c.toNat));have NE:∀t∈nL ms (⟨iw s l p aF q.1.1,by rw[tK,q.1.2]⟩:Vec s.c.toNat),t.1∈dJ s l (p+1):=λt ht=>by
     rcases IW.1 ht with ht|ht
     ·exact hms t ht
     ·rw[ht];exact vW.2 ⟨_,VE,aF,ND,rfl⟩
    have NF:=agm (x:=(⟨iw s l p aF q.1.1,by rw[tK,q.1.2]⟩:Vec s.c.toNat)) hmn;have hself:(⟨iw s l p aF q.1.1,by rw[tK,q.1.2]⟩:Vec s.c.toNat)∈nL ms (⟨iw s l p aF q.1.1,by rw[tK,q.1.2]⟩:Vec s.c.toNat):=IW.2 (.inr rfl);have hsub:∀t∈ms,t∈nL ms (⟨iw s l p aF q.1.1,by rw[tK,q.1.2]⟩:Vec s.c.toNat):=λt ht=>IW.2 (.inl ht);generalize nL ms (⟨iw s l p aF q.1.1,by rw[tK,q.1.2]⟩:Vec s.c.toNat)=NG at hal NE NF hself hsub⊢;refine go ?_;refine aC rfl (λe1=>?_) (λe1=>?_)
    ·have hL:jm s l:=Tt (p:=p) (by omega) (m:=NG.map (·.1)) (NC NF) (λu hu=>by
      obtain⟨t,ht,rfl⟩:=gD.1 hu;exact NE t ht) (by rw[bI];omega)
     refine go ?_;refine abH ?_;refine go ?_;exact agD h1 hL rfl rfl (by repeat (first|exact aI.nil|(apply aI.cons;(focus (repeat (first|exact ai.here|apply ai.there))))))
    ·refine go ?_;refine aL (dx++[q],NG) (by show(dX ks).length - (dx++[q]).length<(dX ks).length - dx.length;rw[dN,su];omega) ⟨⟨rem,by show((dx++[q])++rem).Perm _;rw[ig];exact hq⟩,NF,NE,λi aF u hi hg hu=>?_,by show NG.length<=4096;omega,λz hz=>?_⟩
     ·obtain⟨t,ht,e⟩:=hmo i aF u hi hg hu;exact⟨t,hsub t ht,e⟩
     ·rcases gF.1 hz with hz|hz
      ·obtain⟨t,ht,e⟩:=hmv z hz;exact⟨t,hsub t ht,e⟩
      ·rw[cz.1 hz];exact⟨_,hself,rfl⟩
   ·refine go ?_;refine aL (k+1,ms) (by show(kw (wl l p)).length - (k+1)<(kw (wl l p)).length - k;omega) ⟨by show k+1<=_;omega,hmn,hms,λi agH u hi hg hu=>?_,hml⟩;by_cases e:i=k
    ·subst e;cases VD.symm.trans hg;have hu2:(⟨u,lF hu⟩:Vec s.c.toNat)∈ks:=(hks ⟨u,lF hu⟩).2 hu;have:((⟨u,lF hu⟩:Vec s.c.toNat),Value.bool true)∈dX ks:=gD.2 ⟨_,hu2,rfl⟩;exact hmv _ (hq.mem_iff.2 this)
    ·exact hmo i agH u (by omega) hg hu
  have hkl:k=(kw (wl l p)).length:=by omega
  subst hkl;have hiff:∀t:Vec s.c.toNat,t∈ms↔t.1∈dJ s l (p+1):=λt=>⟨hms t,λht=>by
   obtain⟨u,hu,aF,hpm,e⟩:=vW.1 ht;obtain⟨i,hi⟩:=qI hpm;obtain⟨t',ht',e'⟩:=hmo i aF u (dU.1 hi).1 hi hu;rw[show t=t' from Subtype.ext (e.trans e'.symm)];exact ht'⟩
  refine go ?_;refine aL (p+1,bn,ms) (by show s.p.toNat - (p+1)<s.p.toNat - p;omega) ⟨by show((p+1:Nat):Int)<=_;omega,hmn,hiff,λq hq=>?_⟩;by_cases e:q=p
  ·subst e;have:=yT (a:=dJ s l (q+1)) (b:=ms.map (·.1)) (DI ..).nodup λu hu=>gD.2 ⟨⟨u,lF hu⟩,(hiff ⟨u,lF hu⟩).2 hu,rfl⟩;rw[bI]at this;omega
  ·exact hlim q (by have:q<p+1:=hq;omega)
 have hpe:p=s.p.toNat:=by omega
 subst hpe;have hL:¬jm s l:=by
  rintro⟨q,hq,hgt⟩;have:=hlim q hq;omega
 obtain⟨oe,ox⟩:=yY h1 hL;have hkl:=adL (NC hnd) (DI s l s.p.toNat).nodup (λu=>⟨λhu=>by
  obtain⟨t,ht,rfl⟩:=gD.1 hu;exact(hks t).1 ht,λhu=>gD.2 ⟨⟨u,lF hu⟩,(hks ⟨u,lF hu⟩).2 hu,rfl⟩⟩)
 rw[bI]at hkl;have hne:dJ s l s.p.toNat≠[]:=MG h.rs _;have hpos:0<(dJ s l s.p.toNat).length:=uh.2 hne;have hle:(dJ s l s.p.toNat).length<=4096:=by
  have:=hlim (s.p.toNat - 1) (by omega)
  rwa [show s.p.toNat - 1+1=s.p.toNat by omega]at this
 refine go ?_;refine aB (agq (c:=s.c.toNat) (bm:=bm)) (next:=λb1 _=>?_);refine bP LD (A:=kQ (dH s.c.toNat) bm (dX ks)) (fs:=[xu (dH s.c.toNat) bm (dX ks)]) (h:=?_);refine go ?_;rw[show Value.slice none 0 0=gv (bN ah).n none 0 from rfl];refine tq (bN ah) ?_;rw[show Value.slice none 0 0=gv (bN ah).n none 0 from rfl];refine Rc (λc:Option Nat=>[pt b4 (.cells [gv (bN ah).n c 0]),ap (bN ah) (gv (bN ah).n c 0) ([]:List (List Int))]) none (h:=?_);refine RO (A:=Ei b4 0 ([]:List (List Int))) (A':=Ei b4 ([]:List (List Int)).length ([]:List (List Int))) rfl ?_;refine Rz (Z:=Nat) (λ(ys:List (List Int)) (x:Vec s.c.toNat)=>(ys++[x.1],Out.normal)) (λys=>[Ei b4 ys.length ys]) (λvs ys=>ys=vs.map (·.1)) [] _ (λx z=>[pt z (.cells ((iX s.c.toNat x).map (.int .i64)))]) rfl (λvs s x rest hs hX _=>by rw[hs,eB];rfl) (agr (b:=b1) (bm:=bm) hc8 (aJ:=dX ks)) (by
  intro s' x lo o B w0;dsimp only[List.zip_cons_cons,List.zip_nil_left,List.reverse_cons,List.reverse_nil,List.nil_append,List.cons_append];refine go ?_;intro b14;refine(QS (b:=b14) (cs:=[.int .i64 0,.int .i64 0,.int .i64 0,.int .i64 0,.int .i64 0,.int .i64 0,.int .i64 0,.int .i64 0]) (vs:=(iX s.c.toNat x).map (.int .i64)) (c:=(iX s.c.toNat x).map (.int .i64)) rfl rfl rfl (by rw[sI,bI,nK hc8];rfl) .here (agE (by rw[bI,nK hc8]))).h ?_;refine go ?_;exact LJ b14 rfl) ?_ ?_ (λ_ _=>trivial)
 ·intro vs ys x rest z lo L B w0 hs hx;subst hs;dsimp only[List.cons_append,List.nil_append];have hlen:(vs.map (·.1)).length<=4096:=by
   have h2:=hx.length_eq;rw[dN,Nv]at h2;rw[bI];omega
  generalize vs.map (·.1)=ys at hlen⊢;refine Rb (h:=λc0=>?_);generalize hv:gv (bN ah).n c0 ys.length=v;refine go ?_;refine(bC rfl rfl (UX (m:=s.c.toNat) rfl (by show Value.int .i64 _=_;congr 1;omega) (by omega))).h ?_;refine go ?_;refine bP (fQ (b:=z) (cs:=(iX s.c.toNat x).map (.int .i64))) (h:=?_);have hxt:(iX s.c.toNat x).take s.c.toNat=x.1:=List.take_left' x.2;refine bJ (ae ah (.slice (some ⟨z,0,some 0⟩) s.c.toNat 8) x.1) (λw hw=>by rw[<- hxt];exact UY (hw _ (aR ..)) (by rw[nK hc8];exact hc8) hc8) ?_;refine aB (UR (xs:=x.1) (by rw[x.2];omega) (by rw[x.2];omega)) (next:=λvc _=>?_);refine eY (E:=ah) (v:=vc) (xs:=x.1) (by simp) λac cc ec=>?_;subst ec;refine go ?_;intro b71;refine go ?_;refine ac7 (xs:=ys) (bN ah) x.1 (.slice ac x.1.length cc) (by omega) (next:=λcb=>?_);refine go ?_;rw[show Value.slice (some ⟨cb,0,some (bN ah).n⟩) (ys.length+1) (ys.length+1)=gv (bN ah).n (some cb) (ys.length+1)from rfl];refine Rc (λc:Option Nat=>[pt b4 (.cells [gv (bN ah).n c (ys.length+1)]),ap (bN ah) (gv (bN ah).n c (ys.length+1)) (ys++[x.1])]) (some cb) (h:=?_);refine RO (A:=Ei b4 (ys.length+1) (ys++[x.1])) (A':=Ei b4 (ys++[x.1]).length (ys++[x.1])) (by rw[dN,su]) ?_;exact GH () rfl trivial trivial
 ·intro r xs hX;have hrun:∀(ys:List (List Int)) (zs:List (Vec s.c.toNat)),iL (λ(ys:List (List Int)) (x:Vec s.c.toNat)=>(ys++[x.1],Out.normal)) ys zs=(ys++zs.map (·.1),.normal):=by
   intro ys zs;induction zs generalizing ys with
   |nil=>simp[iL]
   |cons z zs ih=>rw[iL];simp only[ih];simp
  rw[hrun,dI];rw[Nv]at hX;have pW:=hX.length_eq;have NH:∀u,u∈xs.map (·.1)↔u∈dJ s l s.p.toNat:=λu=>by
   constructor
   ·intro hu;obtain⟨t,ht,rfl⟩:=gD.1 hu;exact(hks t).1 (hX.mem_iff.1 ht)
   ·intro hu;exact gD.2 ⟨⟨u,lF hu⟩,hX.mem_iff.2 ((hks ⟨u,lF hu⟩).2 hu),rfl⟩
  have IZ:(xs.map (·.1)).Nodup:=NC (hX.nodup_iff.2 hnd);have hX1:(xs.map (·.1)).length=(dJ s l s.p.toNat).length:=by rw[bI];omega
  generalize xs.map (·.1)=Y at NH IZ hX1⊢;dsimp only[List.cons_append,List.nil_append];refine Rb (h:=λc0=>?_);cases c0 with
  |none=>
   rw[show gv (bN ah).n none Y.length=Value.slice none 0 0 from rfl];exact ac9 (E:=bN ah) (xs:=Y) (by omega)
  |some cb=>
  rw[show gv (bN ah).n (some cb) Y.length=.slice (some ⟨cb,0,some 1⟩) Y.length Y.length from rfl];refine go ?_;refine aB (agx (a:=some ⟨cb,0,some 1⟩) (m:=Y.length) (xs:=Y) rfl (by omega) (λx hx=>by have:=lF ((NH x).1 hx);omega)) (next:=λys hys=>?_);have hyX:ys=rW s l:=by
   rw[ox];have hym:∀u,u∈ys↔u∈dJ s l s.p.toNat:=λu=>(hys.1.mem_iff).trans (NH u);refine Tj ?_ (DI ..) hym;have hn2:ys.Nodup:=hys.1.nodup_iff.2 IZ;refine List.Pairwise.imp_of_mem (R:=λa b=>¬iD jS b a<0/\a≠b) (λ{a b} ha hb hab=>?_) (hys.2.and hn2);have VF:a.length=b.length:=by rw[lF ((hym a).1 ha),lF ((hym b).1 hb)]
   refine MC VF.symm ?_ (Ne.symm hab.2);rw[Bool.eq_false_iff];exact λe=>hab.1 ((Vy VF.symm).2 e)
  have hyl:ys.length=Y.length:=hys.1.length_eq;refine go ?_;refine bP (A:=ap (bN ah) (.slice (some ⟨cb,0,some 1⟩) Y.length Y.length) ys) (fs:=[ae (bN ah) (.slice (some ⟨cb,0,some 1⟩) Y.length Y.length) ys]) rD (h:=?_);refine GK (m:=.returning) ?_;refine abK ?_;exact or_fin (v:=.slice (some ⟨cb,0,some 1⟩) Y.length Y.length) (X:=ys) (e:=0) ⟨oe.symm,hyX⟩ (aR ..) rfl rfl (by repeat (first|exact aI.nil|(apply aI.cons;(focus (repeat (first|exact ai.here|apply ai.there))))))
