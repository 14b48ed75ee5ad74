/-
  Totals as keys of maps; the walk over them; their sort; what Orders catches.
-/
import Derived.Test.YtjmgkllpcidhjaaGreatDoorLibKN
import Derived.Test.YtjmgkllpcidhjaaGreatDoorLibZN
import Derived.Test.YtjmgkllpcidhjaaGreatDoorShelfS
set_option linter.all false
set_option maxRecDepth 10000
set_option maxHeartbeats 4000000
namespace Go.Proofs.YtjmgkllpcidhjaaGreatDoor
open Go.Ideal Rk Canon Go.Sort
abbrev Vec(c:Nat):={t:List Int//t.length=c}
def lN(c:Nat)(t:Vec c):List Int:=t.1++List.replicate (8 - c) 0
def gK(c:Nat)(t:Vec c):Value:=.agg ⟨(lN c t).map (.int .i64)⟩
theorem vK{c:Nat}(hc:c<=8)(t:Vec c):(lN c t).length=8:=by
 unfold lN;rw[dW,qo,t.2];omega
theorem U8{c:Nat}{a b:Vec c}(h:lN c a=lN c b):a=b:=by
 unfold lN at h;exact Subtype.ext (List.append_inj_left h (by rw[a.2,b.2]))
theorem U9{c:Nat}:∀a b:Vec c,gK c a=gK c b->a=b:=λa b h=>by
 injection h with h;injection h with h;refine U8 ?_;exact List.map_inj_right (λx y h=>by injection h)|>.1 h
theorem Va{c:Nat}(hc:c<=8):uQ Tryz.prog 62 (gK c) where
 tF a:=by
  unfold gK;obtain⟨x0,x1,x2,x3,x4,x5,x6,x7,h⟩:=len8 (vK hc a);rw[h]
  kernel_rfl
 find a aN es h:=QW (d:=.array 8 3) (by kernel_rfl) (λa b=>rfl) (λa b=>by
  have:=Lc (P:=Tryz.prog) (d:=9998) (t:=62) (xs:=lN c a) (ys:=lN c b) (n:=8) (e:=3) (by kernel_rfl) (by kernel_rfl) (by kernel_rfl) (vK hc a) (vK hc b);rw[show decide (a=b)=decide (lN c a=lN c b)from EB.2 ⟨λh=>by rw[h],U8⟩];exact this) a aN es h
 same a:=by
  unfold gK;obtain⟨x0,x1,x2,x3,x4,x5,x6,x7,h⟩:=len8 (vK hc a);rw[h];show((⟨_⟩:Array Value).size==(⟨_⟩:Array Value).size&&(List.zip _ _).all λ(x,y)=>Instr.sameBits 9999 x y)=true;simp[Instr.sameBits]
def jM{α:Type}[DecidableEq α](m:List α)(x:α):List α:=if x∈m then m else m++[x]
theorem AX{α:Type}[DecidableEq α]{m:List α}{x y:α}:y∈jM m x↔y∈m\/y=x:=by
 unfold jM;split
 ·rename_i h;exact⟨.inl,λk=>k.elim id λe=>e▸h⟩
 ·rw[gy,di]
theorem Vb{α:Type}[DecidableEq α]{m:List α}{x:α}(h:m.Nodup):(jM m x).Nodup:=by
 unfold jM;split
 ·exact h
 ·rename_i hx;rw[qV];exact⟨h,by simp,λa ha b hb e=>hx (by rw[<- di.1 hb,<- e];exact ha)⟩
theorem agq{α:Type}[DecidableEq α]{m:List α}{x:α}:(jM m x).length<=m.length+1:=by
 unfold jM;split<;>simp
def iY{c:Nat}(ks:List (Vec c)):List (Vec c×Value):=ks.map λk=>(k,.bool true)
theorem M9{c:Nat}:∀ks:List (Vec c),(iY ks).map (·.1)=ks
 |[]=>rfl
 |x::ks=>congrArg (x::·) (M9 ks)
theorem agr{c:Nat}(ks:List (Vec c)):(iY ks).length=ks.length:=bC ..
theorem Vd{c:Nat}(k:Vec c):∀ks:List (Vec c),upd k (.bool true) (iY ks)=iY (jM ks k)
 |[]=>rfl
 |x::ks=>by
  have ih:=Vd k ks;have e1:iY (x::ks)=(x,.bool true)::iY ks:=rfl;rw[e1,upd];by_cases h:k=x
  ·subst h;rw[if_pos rfl];unfold jM;rw[if_pos (bz ..)];rfl
  ·rw[if_neg h,ih];unfold jM;by_cases hm:k∈ks
   ·rw[if_pos hm,if_pos (dh _ hm)];rfl
   ·rw[if_neg hm,if_neg (λe=>(aU.1 e).elim h hm)];rfl
theorem agt{c bm:Nat}:bD Tryz.prog (.func 44) [.map (some bm)] [] [] [] (λb:Nat=>.func (.func 62) #[] #[ptr' b]) (λ_=>[]) (λb=>[dG b 0 [.map (some bm)]]) (λ_=>True):=by
 refine aX _ (bN 44) λB w0=>?_;refine go ?_;intro b1;refine go ?_;refine bG (eP (b:=b1)) (h:=?_);exact aj b1 (hv:=rfl) (hp:=trivial)
theorem agu{c b bm:Nat}(hc:c<=8){aN:List (Vec c×Value)}:K6 Tryz.prog (λx:Vec c=>[gK c x]) (.func 62) [] [ptr' b] [dG b 0 [.map (some bm)],Da (gK c) bm aN] (λxs=>xs.Perm (aN.map (·.1))):=by
 intro S inv ok step s0 K7 y1 y2 F' h0 hok hy;rw[pG,pG,gL];refine aX _ (bN 62) λB w0=>?_;refine go ?_;refine QI (b:=bm) (aN:=aN) (aS:=gK c) (next:=λr=>?_);refine go ?_;refine bE (λy:List (Vec c×Value)×S=>aN.length - y.1.length) (λy=>[]) (λy=>yn (gK c) r bm aN y.1::inv y.2) (λ_=>[]) (λy=>ok (y.1.map (·.1)) y.2/\(∃rest,(y.1++rest).Perm aN)/\∀rest,oI step s0 (y.1.map (·.1)++rest)=oI step y.2 rest) ([],s0) ⟨h0,⟨aN,.refl _⟩,λ_=>rfl⟩ (body:=?_);rintro⟨gq,s⟩ ⟨hos,_,hrun⟩;dsimp only at hos hrun⊢;refine go ?_;refine QJ (b:=bm) (aN:=aN) (gq:=gq) (aS:=gK c) (more:=λp rem hp=>?_) (done:=λhp=>?_) U9
 ·have hX:(gq.map (·.1)++p.1::rem.map (·.1)).Perm (aN.map (·.1)):=by
   have:=hp.map (·.1);rw[fH,mJ]at this;exact this
  have hlen:=hp.length_eq;rw[dW,qh]at hlen;have Na:=hy _ s _ _ hos hX;have Ec:∃x0 x1 x2 x3 x4 x5 x6 x7,gK c p.1=.agg ⟨[.int .i64 x0,.int .i64 x1,.int .i64 x2,.int .i64 x3,.int .i64 x4,.int .i64 x5,.int .i64 x6,.int .i64 x7]⟩:=by
   obtain⟨x0,x1,x2,x3,x4,x5,x6,x7,h⟩:=len8 (vK hc p.1);exact⟨x0,x1,x2,x3,x4,x5,x6,x7,by unfold gK;rw[h];rfl⟩
  obtain⟨x0,x1,x2,x3,x4,x5,x6,x7,Ec⟩:=Ec;refine go ?_;refine QK (aS:=gK c) (aN:=aN) (gq:=gq) (p:=p) ?_;dsimp only at Na;rw[Ec]at Na⊢;refine go ?_;intro b3;refine go ?_;refine aD Na (next:=λ_ _=>?_);cases hst:(step s p.1).2 with
  |true=>
   have hs1:step s p.1=((step s p.1).1,true):=Prod.ext rfl hst;refine go ?_;refine aO (gq++[p],(step s p.1).1) (by show aN.length - (gq++[p]).length<_;rw[dW,qm];omega) ⟨?_,⟨rem,by show((gq++[p])++rem).Perm aN;rw[ik];exact hp⟩,λrest=>?_⟩
   ·show ok ((gq++[p]).map (·.1)) _;rw[fH];exact hok _ s _ _ hos hX hst
   ·show oI step s0 ((gq++[p]).map (·.1)++rest)=_;rw[fH,ik,hrun];show oI step s (p.1::rest)=_;rw[oI,hs1]
  |false=>
   have hs1:step s p.1=((step s p.1).1,false):=Prod.ext rfl hst;have hr:=hrun (p.1::rem.map (·.1));rw[oI,hs1]at hr;dsimp only at hr;refine go ?_;exact aj (gq.map (·.1)++p.1::rem.map (·.1)) (hv:=rfl) (hp:=hX) (hk:=by rw[hr];exact aM.self _ _)
 ·refine go ?_;have hr:=hrun [];rw[gQ]at hr;exact aj (gq.map (·.1)) (hv:=rfl) (hp:=hp.map (·.1)) (hk:=by rw[hr];apply aM.there;exact aM.all _)
theorem Ve:∀{xs ys:List Int},xs.length=ys.length->(gM jE xs ys<0↔gZ xs ys=true)
 |[],[],_=>by simp[gM,gZ]
 |x::xs,y::ys,h=>by
  have ih:=Ve (xs:=xs) (ys:=ys) (by simpa using h);rw[Gs,gM];unfold jE at ih⊢;by_cases h1:x<y
  ·rw[if_pos h1,if_pos (by decide)];simp[h1]
  ·by_cases h2:y<x
   ·rw[if_neg h1,if_pos h2,if_pos (by decide)];simp[h1];omega
   ·rw[if_neg h1,if_neg h2,if_neg (by simp),ih];have:x=y:=by omega
    simp[this]
 |[],_::_,h=>by simp at h
 |_::_,[],h=>by simp at h
theorem agv{va vb:Value}{xs ys:List Int}(hx:xs.length<=1000000)(hy:ys.length<=1000000):eY Tryz.prog 46 [va,vb] [ah ae va xs,ah ae vb ys] (.int .i64 (gM jE xs ys)):=by
 refine aX _ (bN 46) λB w0=>?_;refine go ?_;refine aD (agc (xs:=xs) (ys:=ys) hx hy) (next:=λ_ _=>?_);refine go ?_;exact aj () (hv:=rfl) (hp:=trivial)
theorem agw:SWO (ltOf (gM jE)):=by
 have h:=ZY ZX;have hz:=h.zero;have hn:=h.neg;have ht:=h.trans;refine⟨λx=>?_,λx y z h1 h2=>?_,λx y z h1 h2=>?_⟩
 ·have:=(hz x x).2 rfl;exact gz (by omega)
 ·exact eH (ht x y z (nX h1) (nX h2))
 ·have h1:¬gM jE x y<0:=Iq h1;have h2:¬gM jE y z<0:=Iq h2;refine gz λh3=>?_;by_cases e1:gM jE x y=0
  ·rw[(hz x y).1 e1]at h3;exact h2 h3
  by_cases e2:gM jE y z=0
  ·rw[<- (hz y z).1 e2]at h3;exact h1 h3
  have h4:=(hn z y).2 (by omega);have h5:=(hn y x).2 (by omega);have h6:=ht z y x h4 h5;have h7:=(hn z x).1 h6;omega
theorem agx:Ga Tryz.prog 45 1 qN:=acz λα _ enc cf g cb blk off cap d w h1 hO eg hcmp hH hblk hsz=>Any.slices_SortFunc Tryz.laysF6 enc h1 cf hO g cb blk off cap d w eg hcmp hH hblk hsz
theorem agy:Lp Tryz.prog 45:=λp cap fv w=>AnyF.slices_SortFunc_none {Tryz.laysF6 with} p cap fv w
theorem Vf(f:FuncId)(h2:(Tryz.prog.funcs[f]?).map (λf=>f.name== "runtime.NumGoroutine")=some false)(h3:(Tryz.prog.funcs[f]?).map (λf=>f.body.isSome)=some true):∃fn body,Tryz.prog.funcs[f]? =some fn/\fn.body=some body/\fn.name≠ "runtime.NumGoroutine" :=by
 cases hfn:Tryz.prog.funcs[f]? with
 |none=>rw[hfn]at h2;cases h2
 |some fn=>
  rw[hfn]at h2 h3;have h2:(fn.name== "runtime.NumGoroutine")=false:=Option.some.inj h2;have h3:fn.body.isSome=true:=Option.some.inj h3;obtain⟨body,hb⟩:=NH.1 h3;exact⟨fn,body,rfl,hb,by simpa using h2⟩
theorem agz{a:Option Addr}{m:Nat}{xs:List (List Int)}(hm:m=xs.length)(hl:xs.length<4611686018427387904)(hx:∀x∈xs,x.length<=1000000):
 bD Tryz.prog (.func 45) [.slice a m m,.func (.func 46) ⟨[]⟩ ⟨[]⟩] [] [ap (aI ae) (.slice a m m) xs] [] (λ_:List (List Int)=>.tuple ⟨[]⟩) (λys=>[ap (aI ae) (.slice a m m) ys]) (λ_=>[]) (λys=>ys.Perm xs/\ys.Pairwise λx y=>¬gM jE y x<0):=by
 subst hm;obtain⟨fn,body,h1,h2,h3⟩:=Vf 45 (by kernel_rfl) (by kernel_rfl);obtain⟨gn,Gb,g1,g2,g3⟩:=Vf 46 (by kernel_rfl) (by kernel_rfl);exact acw (E:=aI ae) (xs:=xs) (F:=[]) (cap:=[]) follows acA agx agy h1 h2 h3 g1 g2 g3 rfl (by decide) agw (λx hxm y hym va vb=>agv (hx x hxm) (hx y hym)) hl
theorem agA{P:Program}{ρ:Operand->Value}{t:TypeId}{zero:Value}{x:Operand}(hx:ρ x=.nilIface):Pu P ρ (.Bw t zero true x) (.tuple ⟨[zero,.bool false]⟩):=λh=>by
 simp only[ak.run,hx];rfl
theorem agB{P:Program}{ρ:Operand->Value}{t:TypeId}{zero v:Value}{x:Operand}(hx:ρ x=.iface t v):Pu P ρ (.Bw t zero true x) (.tuple ⟨[v,.bool true]⟩):=λh=>by
 simp only[ak.run,hx,vO];rfl
theorem agC{b4 b5:Nat}:FZ Tryz.prog (.func 42) [] [ptr' b4,ptr' b5] .returning [] [] (λ_:Unit=>.ok (.tuple ⟨[]⟩)) (λ_=>.returning) (λ_=>[]) (λ_=>[]) (λ_=>True):=by
 refine Qv _ (bN 42) λB w0=>?_;refine go ?_;refine Qw (v:=.nilIface) (m':=.returning) rfl ?_;refine(bO rfl rfl (agA rfl)).h ?_;refine go ?_;exact Qy () (hv:=rfl) (hm:=rfl) (hp:=trivial)
abbrev Nb:List PanicEntry:=[{v:=.iface 28 (.int .i64 2),recovered:=false}]
theorem agD{b4 b5:Nat}:FZ Tryz.prog (.func 42) [] [ptr' b4,ptr' b5] (.panicking Nb) [pt b4 (.cells [.slice none 0 0]),pt b5 (.cells [.int .i64 0])] [] (λ_:Unit=>.ok (.tuple ⟨[]⟩)) (λ_=>.panicking [{v:=.iface 28 (.int .i64 2),recovered:=true}])
 (λ_=>[pt b4 (.cells [.slice none 0 0]),pt b5 (.cells [.int .i64 2])]) (λ_=>[]) (λ_=>True):=by
 refine Qv _ (bN 42) λB w0=>?_;refine go ?_;refine Qw (v:=.iface 28 (.int .i64 2)) (m':=.panicking [{v:=.iface 28 (.int .i64 2),recovered:=true}]) rfl ?_;refine(bO rfl rfl (agB rfl)).h ?_;refine go ?_;exact Qy () (hv:=rfl) (hm:=rfl) (hp:=trivial)
end Go.Proofs.YtjmgkllpcidhjaaGreatDoor
namespace Go.Proofs.YtjmgkllpcidhjaaGreatDoor
open Go.Ideal Rk Canon Go.Sort
noncomputable def HY:=sN Tryz.prog 19
theorem agE:ja Tryz.prog 19=some HY:=by kernel_rfl
structure Nc where
 v:Value
 e:Int
 X:List (List Int)
abbrev HZ(y:Nc):Value:=.tuple ⟨[y.v,.int .i64 y.e]⟩
abbrev H6(y:Nc):List aK:=[ah (aI ae) y.v y.X]
def Ed(s:aT)(l:List aG)(y:Nc):Prop:=y.e=gJ s l/\y.X=dV s l
theorem Vg{E:Enc (List Int)}(w:Wd):(ah E (.slice none 0 0) ([]:List (List Int))).p w:=.inl ⟨rfl,none,0,rfl,trivial⟩
abbrev Vh(b4 b5:Nat):Deferred:={target:=.fn (.func 42) ⟨[ptr' b4,ptr' b5]⟩,args:=⟨[]⟩}
section
variable {B:List Nat} {w0:Wd} {kl bK:List OA} {F:List aK} {l':List (Nat×Value)} {b4 b5:Nat} {n:Nat}
theorem agF{s:aT}{l:List aG}(hc:eU s l=0)(hno:mG s l)(h4:lk l' 4=ptr' b4)(h5:lk l' 5=ptr' b5)(hk:aM [pt b4 (.cells [.slice none 0 0]),pt b5 (.cells [.int .i64 0])] kl bK):
 R (λh=>yf Tryz.prog HY (Ag B w0 (λy=>.ok (HZ y)) (λ_=>[]) H6 (Ed s l)) (.panic Nb) (act n l' [Vh b4 b5] none none) h) B w0 kl F:=by
 refine F3 (m:=.panicking Nb) ?_;refine Qx (bK:=bK) (fF:=λ_=>[pt b4 (.cells [.slice none 0 0]),pt b5 (.cells [.int .i64 2])]++bK) (F2:=λ_=>F) (agD (b4:=b4) (b5:=b5)) (λy v _ _=>?_) (λy ch _ hc=>by cases hc) (hk:=hk) (hF:=.nil) (hk2:=λ_=>bZ.app) (hF2:=λ_=>bZ.nil);show RL _ _ _ _ .returning _ _ _ _ _;intro w s';have s'':St B w0 ([pt b4 (.cells [.slice none 0 0]),pt b5 (.cells [.int .i64 2])]++bK) [ah (aI ae) (.slice none 0 0) ([]:List (List Int))] w:=⟨s'.agree,s'.le,s'.eO,s'.own,λf hf=>by rw[di.1 hf];exact Vg w⟩
 obtain⟨e1,e2⟩:=Dw hc hno;refine Qz (bK:=[pt b4 (.cells [.slice none 0 0]),pt b5 (.cells [.int .i64 2])]++bK) (vs:=[.slice none 0 0,.int .i64 2]) ⟨.slice none 0 0,2,[]⟩ rfl ⟨e1.symm,e2.symm⟩ (hr:=?_) (hk:=.nil) (hF:=by(apply Sub.cons;exact di.2 rfl;exact Sub.nil)) w s'';show RS l' _ [.cell1 4,.cell1 5] _;exact .cell1 h4 .here rfl (.cell1 h5 (.there .here) rfl .nil)
theorem or_fin{s:aT}{l:List aG}{v:Value}{X:List (List Int)}{e:Int}(hp:Ed s l ⟨v,e,X⟩)(hF:ah (aI ae) v X∈F)(h4:lk l' 4=ptr' b4)(h5:lk l' 5=ptr' b5)(hk:aM [pt b4 (.cells [v]),pt b5 (.cells [.int .i64 e])] kl bK):
 RL Tryz.prog HY l' [Vh b4 b5] .returning (λr h=>Ag B w0 (λy=>.ok (HZ y)) (λ_=>[]) H6 (Ed s l) r none h) B w0 kl F:=by
 refine Qx (k1:=[]) (bK:=kl) (fF:=λ_=>kl) (F2:=λ_=>F) (agC (b4:=b4) (b5:=b5)) (λ_ _ _ _=>?_) (λ_ ch _ hc=>by cases hc) (hk:=.nil) (hF:=.nil) (hk2:=λ_=>bZ.nil) (hF2:=λ_=>bZ.nil);show RL _ _ _ _ .returning _ _ _ _ _;intro w s';have s'':=s'.jF hk;refine Qz (bK:=[pt b4 (.cells [v]),pt b5 (.cells [.int .i64 e])]++bK) (vs:=[v,.int .i64 e]) ⟨v,e,X⟩ rfl hp (hr:=?_) (hk:=.nil) (hF:=by(apply Sub.cons;exact hF;exact Sub.nil)) w s'';show RS l' _ [.cell1 4,.cell1 5] _;exact .cell1 h4 .here rfl (.cell1 h5 (.there .here) rfl .nil)
end
theorem agG{vs:List Value}(h:vs.length=8){a0 a1 a2 a3 a4 a5 a6 a7:Value}:fU [a0,a1,a2,a3,a4,a5,a6,a7] 0 vs=some vs:=by
 obtain⟨x0,x1,x2,x3,x4,x5,x6,x7,rfl⟩:=len8 h;rfl
theorem Nf{c:Nat}{m:List (Vec c)}(h:m.Nodup):(m.map (·.1)).Nodup:=List.pairwise_map.2 (List.Pairwise.imp (λhab e=>hab (Subtype.ext e)) h)
abbrev Ee(b n:Nat)(ys:List (List Int)):OA:=KU λc:Option Nat=>[pt b (.cells [gv (aI ae).n c n]),ap (aI ae) (gv (aI ae).n c n) ys]
theorem yX{s:aT}{v1 v2 v3 v4 vl:Value}{l:List aG}(h4:s.c<=4)(hb1:s.lv.length<9223372036854775808)(hb2:s.cl.length<9223372036854775808)(hb3:s.pz.length<9223372036854775808)(hx1:cellsOf v1=some [v1])(hx2:cellsOf v2=some [v2])(hx3:cellsOf v3=some [v3])(hx4:cellsOf v4=some [v4]):
 bD Tryz.prog (.func 19) [.agg ⟨kz s v1 v2 v3 v4⟩,vl] [] [] [lG 0 mh,ah ae v1 s.lv,ah ae v2 s.cl,ah fw v3 s.pg,ah ae v4 s.pz,ah cO vl l] HZ (λ_=>[]) H6 (Ed s l):=by
 refine FY.toC _ ?_ (λ_ _=>rfl);refine aa9 HY agE λB w0=>?_;refine go ?_;intro b2 b4 b5;refine go ?_;refine aD (Uh (s:=s) (l:=l) hb1 hb2 hb3 hx1 hx2 hx3 hx4) (next:=λy hy=>?_);subst hy;refine go ?_;refine aC rfl (λh1=>?_) (λh1=>?_)
 ·refine go ?_;refine cK (ah (aI ae) (.slice none 0 0) ([]:List (List Int))) (λw _=>Vg w) ?_;exact abh ⟨.slice none 0 0,eU s l,[]⟩ (hv:=rfl) (hp:=⟨(Dv h1).1.symm,(Dv h1).2.symm⟩)
 have h1:eU s l=0:=sG.1 h1;have h:=mX h1;have hll:=h.len;have hc1:=h.sh.c1;have hc8:s.c.toNat<=8:=by omega
 have hp1:=h.sh.p1;have MZ:=h.sh.p8;refine bG (eP (b:=b2)) (h:=?_);refine go ?_;refine abd ?_;refine go ?_;refine Ah (gK s.c.toNat) (λbm=>?_);refine go ?_;refine Ai (aS:=gK s.c.toNat) (b:=bm) (v:=.bool true) (aN:=[]) (Va hc8) ⟨List.replicate s.c.toNat 0,qo⟩ ?_ (ha:=?_)
 rotate_left
 ·show Value.agg ⟨[0,0,0,0,0,0,0,0].map (Value.int .i64)⟩=_;unfold gK lN;rw[<- Sm hc8];rfl
 rw[show upd (⟨List.replicate s.c.toNat 0,qo⟩:Vec s.c.toNat) (Value.bool true) []=iY [⟨List.replicate s.c.toNat 0,qo⟩]from rfl];refine go ?_;refine bE (λy:Nat×Nat×List (Vec s.c.toNat)=>s.p.toNat - y.1) (λy=>[(27,.int .i64 (y.1:Int)),(7,.map (some y.2.1))]) (λy=>[jV (gK s.c.toNat) y.2.1 (iY y.2.2)]) (λ_=>[]) (λy=>(y.1:Int)<=s.p/\y.2.2.Nodup/\(∀t:Vec s.c.toNat,t∈y.2.2↔t.1∈bW s l y.1)/\∀q,q<y.1->(bW s l (q+1)).length<=4096)
  (0,bm,[⟨List.replicate s.c.toNat 0,qo⟩]) ⟨by show(0:Int)<=_;omega,by simp,λt=>by rw[di];show _↔t.1∈[List.replicate s.c.toNat 0];rw[di];exact⟨λe=>congrArg Subtype.val e,λe=>Subtype.ext e⟩,λq hq=>absurd hq (Nat.not_lt_zero _)⟩ (hk:=by repeat (first|exact aM.nil|(apply aM.cons;(focus (repeat (first|exact ai.here|apply ai.there)))))) (body:=?_)
 rintro⟨p,bm,ks⟩ ⟨hp,hnd,hks,hlim⟩;dsimp only at hp hnd hks hlim⊢;refine go ?_;refine aC rfl (λh2=>?_) (λh2=>?_)
 ·have jX:=mY l (p:Int);have htop:∀i,i<(wl l p).length->hi (wl l p) i<=kv:=λi hi=>(mZ h.rs hi).2.2;have hlo:∀i,i<(wl l p).length->0<=lo (wl l p) i:=λi hi=>(mZ h.rs hi).1;have agH:=SY h.rs (p:Int);have hpl:=Gj htop (by omega);have hrg:∀{t:List Int},t∈bW s l p->∀x∈t,0<=x/\x<=(p:Int)*33554432:=Mh hll p;refine go ?_;refine aD (Uk (l:=l) (p:=(p:Int)) (by omega)) (next:=λvo _=>?_);refine go ?_;refine Ah (gK s.c.toNat) (λbn=>?_);refine go ?_;refine aD (agp (vl:=vl) (vo:=vo) (l:=l) (p:=(p:Int)) (s:=s) h.rs hll (by omega)) (next:=λvq _=>?_);refine bG QG (A:=jV (gK s.c.toNat) bm (iY ks)) (fs:=[Da (gK s.c.toNat) bm (iY ks)]) (h:=?_);refine go ?_;refine bE (λy:Nat×List (Vec s.c.toNat)=>(jd (wl l p)).length - y.1) (λy=>[(38,.int .i64 (y.1:Int))]) (λy=>[jV (gK s.c.toNat) bn (iY y.2)]) (λ_=>[]) (λy=>y.1<=(jd (wl l p)).length/\y.2.Nodup/\(∀t∈y.2,t.1∈bW s l (p+1))/\(∀(i:Nat) aF u,i<y.1->(jd (wl l p))[i]? =some aF->u∈bW s l p->∃t∈y.2,t.1=fO s l p aF u)/\y.2.length<=4096)
   (0,[]) ⟨bF _,Ez,(λt ht=>by cases ht),λi aF u hi=>absurd hi (Nat.not_lt_zero _),bF _⟩ (hk:=by repeat (first|exact aM.nil|(apply aM.cons;(focus (repeat (first|exact ai.here|apply ai.there)))))) (body:=?_)
  rintro⟨k,ms⟩ ⟨hk,hmn,hms,hmo,hml⟩;dsimp only at hk hmn hms hmo hml⊢;refine go ?_;refine aC rfl (λh3=>?_) (λh3=>?_)
  ·refine go ?_;refine bJ (aI ae) (k:=k) (next:=λ_ _ aF (vp:Value) Ef=>?_);have AY:=cZ Ef;have Ng:aF.length=(aL l p).length:=by rw[Mf htop AY,jX]
   have Nh:∀x∈aF,0<=x/\x<=1048576:=λx hx=>by have:=Su htop hlo AY hx;omega
   refine go ?_;refine QI (b:=bm) (aN:=iY ks) (aS:=gK s.c.toNat) (next:=λr=>?_);refine go ?_;refine bE (λy:List (Vec s.c.toNat×Value)×List (Vec s.c.toNat)=>(iY ks).length - y.1.length) (λy=>[]) (λy=>[yn (gK s.c.toNat) r bm (iY ks) y.1,jV (gK s.c.toNat) bn (iY y.2)]) (λ_=>[]) (λy=>(∃rest,(y.1++rest).Perm (iY ks))/\y.2.Nodup/\(∀t∈y.2,t.1∈bW s l (p+1))/\(∀(i:Nat) aF u,i<k->(jd (wl l p))[i]? =some aF->u∈bW s l p->∃t∈y.2,t.1=fO s l p aF u)/\y.2.length<=4096/\∀q∈y.1,∃t∈y.2,t.1=fO s l p aF q.1.1)
    ([],ms) ⟨⟨_,.refl _⟩,hmn,hms,hmo,hml,λq hq=>by cases hq⟩ (hk:=by repeat (first|exact aM.nil|(apply aM.cons;(focus (repeat (first|exact ai.here|apply ai.there)))))) (body:=?_)
   rintro⟨gq,ms⟩ ⟨_,hmn,hms,hmo,hml,hmv⟩;dsimp only at hmn hms hmo hml hmv⊢;refine go ?_;refine QJ (b:=bm) (aN:=iY ks) (gq:=gq) (aS:=gK s.c.toNat) (more:=λq rem hq=>?_) (done:=λhq=>?_) U9
   ·have hqk:q.1∈ks:=by
     have:q∈iY ks:=hq.mem_iff.1 (by simp);obtain⟨z,hz,e⟩:=jQ.1 this;rw[<- e];exact hz
    have Vi:=(hks q.1).1 hqk;have hlen:=hq.length_eq;rw[dW,qh]at hlen;obtain⟨x0,x1,x2,x3,x4,x5,x6,x7,Ni⟩:=len8 (vK hc8 q.1);have Ec:gK s.c.toNat q.1=.agg ⟨[.int .i64 x0,.int .i64 x1,.int .i64 x2,.int .i64 x3,.int .i64 x4,.int .i64 x5,.int .i64 x6,.int .i64 x7]⟩:=by unfold gK;rw[Ni];rfl
    have hrx:∀x∈[x0,x1,x2,x3,x4,x5,x6,x7],0<=x/\x<=1099511627776:=λx hx=>by
     rw[<- Ni]at hx;rcases gy.1 hx with hx|hx
     ·have:=hrg Vi x hx;omega
     ·rw[V5 hx];omega
    have hadd:(⟨(fO s l p aF [x0,x1,x2,x3,x4,x5,x6,x7]).map (Value.int .i64)⟩:Array Value)=⟨(lN s.c.toNat ⟨fO s l p aF q.1.1,by rw[qP,q.1.2]⟩).map (.int .i64)⟩:=by
     rw[<- Ni];unfold lN;rw[Sa h (by rw[q.1.2];omega)]
    refine go ?_;refine QK (aS:=gK s.c.toNat) (aN:=iY ks) (gq:=gq) (p:=q) ?_;rw[Ec];refine go ?_;intro b13;refine go ?_;refine aD (Un (s:=s) (l:=l) (p:=p) (aF:=aF) (t:=[x0,x1,x2,x3,x4,x5,x6,x7]) h h2 Ng Nh rfl hrx) (next:=λ_ _=>?_);refine go ?_;refine Ai (aS:=gK s.c.toNat) (b:=bn) (v:=.bool true) (aN:=iY ms) (Va hc8) ⟨fO s l p aF q.1.1,by rw[qP,q.1.2]⟩ ?_ (ha:=congrArg Value.agg hadd);rw[Vd];refine go ?_;refine QH (b:=bn) (aS:=gK s.c.toNat) ?_;rw[agr];have hal:=agq (m:=ms) (x:=(⟨fO s l p aF q.1.1,by rw[qP,q.1.2]⟩:Vec s.c.toNat));have Nj:∀t∈jM ms (⟨fO s l p aF q.1.1,by rw[qP,q.1.2]⟩:Vec s.c.toNat),t.1∈bW s l (p+1):=λt ht=>by
     rcases AX.1 ht with ht|ht
     ·exact hms t ht
     ·rw[ht];exact rZ.2 ⟨_,Vi,aF,AY,rfl⟩
    have Nk:=Vb (x:=(⟨fO s l p aF q.1.1,by rw[qP,q.1.2]⟩:Vec s.c.toNat)) hmn;have hself:(⟨fO s l p aF q.1.1,by rw[qP,q.1.2]⟩:Vec s.c.toNat)∈jM ms (⟨fO s l p aF q.1.1,by rw[qP,q.1.2]⟩:Vec s.c.toNat):=AX.2 (.inr rfl);have hsub:∀t∈ms,t∈jM ms (⟨fO s l p aF q.1.1,by rw[qP,q.1.2]⟩:Vec s.c.toNat):=λt ht=>AX.2 (.inl ht);generalize jM ms (⟨fO s l p aF q.1.1,by rw[qP,q.1.2]⟩:Vec s.c.toNat)=Nl at hal Nj Nk hself hsub⊢;refine go ?_;refine aC rfl (λe1=>?_) (λe1=>?_)
    ·have hL:mG s l:=Mi (p:=p) (by omega) (m:=Nl.map (·.1)) (Nf Nk) (λu hu=>by
      obtain⟨t,ht,rfl⟩:=jQ.1 hu;exact Nj t ht) (by rw[bC];omega)
     refine go ?_;refine abb ?_;refine go ?_;exact agF h1 hL rfl rfl (by repeat (first|exact aM.nil|(apply aM.cons;(focus (repeat (first|exact ai.here|apply ai.there))))))
    ·refine go ?_;refine aO (gq++[q],Nl) (by show(iY ks).length - (gq++[q]).length<(iY ks).length - gq.length;rw[dW,qm];omega) ⟨⟨rem,by show((gq++[q])++rem).Perm _;rw[ik];exact hq⟩,Nk,Nj,λi aF u hi hg hu=>?_,by show Nl.length<=4096;omega,λz hz=>?_⟩
     ·obtain⟨t,ht,e⟩:=hmo i aF u hi hg hu;exact⟨t,hsub t ht,e⟩
     ·rcases gy.1 hz with hz|hz
      ·obtain⟨t,ht,e⟩:=hmv z hz;exact⟨t,hsub t ht,e⟩
      ·rw[di.1 hz];exact⟨_,hself,rfl⟩
   ·refine go ?_;refine aO (k+1,ms) (by show(jd (wl l p)).length - (k+1)<(jd (wl l p)).length - k;omega) ⟨by show k+1<=_;omega,hmn,hms,λi agI u hi hg hu=>?_,hml⟩;by_cases e:i=k
    ·subst e;cases Ef.symm.trans hg;have hu2:(⟨u,kW hu⟩:Vec s.c.toNat)∈ks:=(hks ⟨u,kW hu⟩).2 hu;have:((⟨u,kW hu⟩:Vec s.c.toNat),Value.bool true)∈iY ks:=jQ.2 ⟨_,hu2,rfl⟩;exact hmv _ (hq.mem_iff.2 this)
    ·exact hmo i agI u (by omega) hg hu
  have hkl:k=(jd (wl l p)).length:=by omega
  subst hkl;have hiff:∀t:Vec s.c.toNat,t∈ms↔t.1∈bW s l (p+1):=λt=>⟨hms t,λht=>by
   obtain⟨u,hu,aF,hpm,e⟩:=rZ.1 ht;obtain⟨i,hi⟩:=qU hpm;obtain⟨t',ht',e'⟩:=hmo i aF u (dX.1 hi).1 hi hu;rw[show t=t' from Subtype.ext (e.trans e'.symm)];exact ht'⟩
  refine go ?_;refine aO (p+1,bn,ms) (by show s.p.toNat - (p+1)<s.p.toNat - p;omega) ⟨by show((p+1:Nat):Int)<=_;omega,hmn,hiff,λq hq=>?_⟩;by_cases e:q=p
  ·subst e;have:=wL (a:=bW s l (q+1)) (b:=ms.map (·.1)) (yJ ..).nodup λu hu=>jQ.2 ⟨⟨u,kW hu⟩,(hiff ⟨u,kW hu⟩).2 hu,rfl⟩;rw[bC]at this;omega
  ·exact hlim q (by have:q<p+1:=hq;omega)
 have hpe:p=s.p.toNat:=by omega
 subst hpe;have hL:¬mG s l:=by
  rintro⟨q,hq,hgt⟩;have:=hlim q hq;omega
 obtain⟨oe,ox⟩:=qQ h1 hL;have hkl:=Sr (Nf hnd) (yJ s l s.p.toNat).nodup (λu=>⟨λhu=>by
  obtain⟨t,ht,rfl⟩:=jQ.1 hu;exact(hks t).1 ht,λhu=>jQ.2 ⟨⟨u,kW hu⟩,(hks ⟨u,kW hu⟩).2 hu,rfl⟩⟩)
 rw[bC]at hkl;have hne:bW s l s.p.toNat≠[]:=Mg h.rs _;have hpos:0<(bW s l s.p.toNat).length:=o9.2 hne;have hle:(bW s l s.p.toNat).length<=4096:=by
  have:=hlim (s.p.toNat - 1) (by omega)
  rwa [show s.p.toNat - 1+1=s.p.toNat by omega]at this
 refine go ?_;refine aD (agt (c:=s.c.toNat) (bm:=bm)) (next:=λb1 _=>?_);refine bG QG (A:=jV (gK s.c.toNat) bm (iY ks)) (fs:=[Da (gK s.c.toNat) bm (iY ks)]) (h:=?_);refine go ?_;rw[show Value.slice none 0 0=gv (aI ae).n none 0 from rfl];refine nE (aI ae) ?_;rw[show Value.slice none 0 0=gv (aI ae).n none 0 from rfl];refine Qr (λc:Option Nat=>[pt b4 (.cells [gv (aI ae).n c 0]),ap (aI ae) (gv (aI ae).n c 0) ([]:List (List Int))]) none (h:=?_);refine QZ (A:=Ee b4 0 ([]:List (List Int))) (A':=Ee b4 ([]:List (List Int)).length ([]:List (List Int))) rfl ?_;refine abx (Z:=Nat) (λ(ys:List (List Int)) (x:Vec s.c.toNat)=>(ys++[x.1],Out.normal)) (λys=>[Ee b4 ys.length ys]) (λvs ys=>ys=vs.map (·.1)) [] _ (λx z=>[pt z (.cells ((lN s.c.toNat x).map (.int .i64)))]) rfl (λvs s x rest hs hX _=>by rw[hs,fH];rfl) (agu (b:=b1) (bm:=bm) hc8 (aN:=iY ks)) (by
  intro s' x lo o B w0;dsimp only[List.zip_cons_cons,List.zip_nil_left,List.reverse_cons,List.reverse_nil,List.nil_append,List.cons_append];refine go ?_;intro b14;refine(FI (b:=b14) (cs:=[.int .i64 0,.int .i64 0,.int .i64 0,.int .i64 0,.int .i64 0,.int .i64 0,.int .i64 0,.int .i64 0]) (vs:=(lN s.c.toNat x).map (.int .i64)) (c:=(lN s.c.toNat x).map (.int .i64)) rfl rfl rfl (by rw[rf,bC,vK hc8];rfl) .here (agG (by rw[bC,vK hc8]))).h ?_;refine go ?_;exact abu b14 rfl) ?_ ?_ (λ_ _=>trivial)
 ·intro vs ys x rest z lo L B w0 hs hx;subst hs;dsimp only[List.cons_append,List.nil_append];have hlen:(vs.map (·.1)).length<=4096:=by
   have h2:=hx.length_eq;rw[dW,M9]at h2;rw[bC];omega
  generalize vs.map (·.1)=ys at hlen⊢;refine Qq (h:=λc0=>?_);generalize hv:gv (aI ae).n c0 ys.length=v;refine go ?_;refine(bO rfl rfl (Ur (m:=s.c.toNat) rfl (by show Value.int .i64 _=_;congr 1;omega) (by omega))).h ?_;refine go ?_;refine bG (eP (b:=z) (cs:=(lN s.c.toNat x).map (.int .i64))) (h:=?_);have hxt:(lN s.c.toNat x).take s.c.toNat=x.1:=List.take_left' x.2;refine cK (ah ae (.slice (some ⟨z,0,some 0⟩) s.c.toNat 8) x.1) (λw hw=>by rw[<- hxt];exact Us (hw _ (bz ..)) (by rw[vK hc8];exact hc8) hc8) ?_;refine aD (Uo (xs:=x.1) (by rw[x.2];omega) (by rw[x.2];omega)) (next:=λvc _=>?_);refine gH (E:=ae) (v:=vc) (xs:=x.1) (by simp) λac cc ec=>?_;subst ec;refine go ?_;intro b71;refine go ?_;refine Lr (xs:=ys) (aI ae) x.1 (.slice ac x.1.length cc) (by omega) (next:=λcb=>?_);refine go ?_;rw[show Value.slice (some ⟨cb,0,some (aI ae).n⟩) (ys.length+1) (ys.length+1)=gv (aI ae).n (some cb) (ys.length+1)from rfl];refine Qr (λc:Option Nat=>[pt b4 (.cells [gv (aI ae).n c (ys.length+1)]),ap (aI ae) (gv (aI ae).n c (ys.length+1)) (ys++[x.1])]) (some cb) (h:=?_);refine QZ (A:=Ee b4 (ys.length+1) (ys++[x.1])) (A':=Ee b4 (ys++[x.1]).length (ys++[x.1])) (by rw[dW,qm]) ?_;exact aa4 () rfl trivial trivial
 ·intro r xs hX;have hrun:∀(ys:List (List Int)) (zs:List (Vec s.c.toNat)),oJ (λ(ys:List (List Int)) (x:Vec s.c.toNat)=>(ys++[x.1],Out.normal)) ys zs=(ys++zs.map (·.1),.normal):=by
   intro ys zs;induction zs generalizing ys with
   |nil=>simp[oJ]
   |cons z zs ih=>rw[oJ];simp only[ih];simp
  rw[hrun,gL];rw[M9]at hX;have fA:=hX.length_eq;have Nn:∀u,u∈xs.map (·.1)↔u∈bW s l s.p.toNat:=λu=>by
   constructor
   ·intro hu;obtain⟨t,ht,rfl⟩:=jQ.1 hu;exact(hks t).1 (hX.mem_iff.1 ht)
   ·intro hu;exact jQ.2 ⟨⟨u,kW hu⟩,hX.mem_iff.2 ((hks ⟨u,kW hu⟩).2 hu),rfl⟩
  have H7:(xs.map (·.1)).Nodup:=Nf (hX.nodup_iff.2 hnd);have hX1:(xs.map (·.1)).length=(bW s l s.p.toNat).length:=by rw[bC];omega
  generalize xs.map (·.1)=Y at Nn H7 hX1⊢;dsimp only[List.cons_append,List.nil_append];refine Qq (h:=λc0=>?_);cases c0 with
  |none=>
   rw[show gv (aI ae).n none Y.length=Value.slice none 0 0 from rfl];exact Ro (E:=aI ae) (xs:=Y) (by omega)
  |some cb=>
  rw[show gv (aI ae).n (some cb) Y.length=.slice (some ⟨cb,0,some 1⟩) Y.length Y.length from rfl];refine go ?_;refine aD (agz (a:=some ⟨cb,0,some 1⟩) (m:=Y.length) (xs:=Y) rfl (by omega) (λx hx=>by have:=kW ((Nn x).1 hx);omega)) (next:=λys hys=>?_);have hyX:ys=dV s l:=by
   rw[ox];have hym:∀u,u∈ys↔u∈bW s l s.p.toNat:=λu=>(hys.1.mem_iff).trans (Nn u);refine Gt ?_ (yJ ..) hym;have hn2:ys.Nodup:=hys.1.nodup_iff.2 H7;refine List.Pairwise.imp_of_mem (R:=λa b=>¬gM jE b a<0/\a≠b) (λ{a b} ha hb hab=>?_) (hys.2.and hn2);have Vj:a.length=b.length:=by rw[kW ((hym a).1 ha),kW ((hym b).1 hb)]
   refine Mc Vj.symm ?_ (Ne.symm hab.2);rw[Bool.eq_false_iff];exact λe=>hab.1 ((Ve Vj.symm).2 e)
  have hyl:ys.length=Y.length:=hys.1.length_eq;refine go ?_;refine bG (A:=ap (aI ae) (.slice (some ⟨cb,0,some 1⟩) Y.length Y.length) ys) (fs:=[ah (aI ae) (.slice (some ⟨cb,0,some 1⟩) Y.length Y.length) ys]) pX (h:=?_);refine F3 (m:=.returning) ?_;refine abf ?_;exact or_fin (v:=.slice (some ⟨cb,0,some 1⟩) Y.length Y.length) (X:=ys) (e:=0) ⟨oe.symm,hyX⟩ (bz ..) rfl rfl (by repeat (first|exact aM.nil|(apply aM.cons;(focus (repeat (first|exact ai.here|apply ai.there))))))
