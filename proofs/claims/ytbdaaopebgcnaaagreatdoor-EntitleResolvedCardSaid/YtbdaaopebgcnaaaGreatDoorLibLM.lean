/-
  Totals as keys of maps; the walk over them; their sort; what Orders catches.
-/
import Derived.Test.YtbdaaopebgcnaaaGreatDoorLibKM
import Derived.Test.YtbdaaopebgcnaaaGreatDoorLibZM
import Derived.Test.YtbdaaopebgcnaaaGreatDoorShelfS
set_option linter.all false
set_option maxRecDepth 10000
set_option maxHeartbeats 4000000
namespace Go.Proofs.YtbdaaopebgcnaaaGreatDoor
open Go.Ideal Rk Canon Go.Sort
abbrev Vec(c:Nat):={t:List Int//t.length=c}
def iy(c:Nat)(t:Vec c):List Int:=t.1++List.replicate (8 - c) 0
def dm(c:Nat)(t:Vec c):Value:=.agg ⟨(iy c t).map (.int .i64)⟩
theorem mg{c:Nat}(hc:c<=8)(t:Vec c):(iy c t).length=8:=by
 unfold iy;rw[dK,xY,t.2];omega
theorem KG{c:Nat}{a b:Vec c}(h:iy c a=iy c b):a=b:=by
 unfold iy at h;exact Subtype.ext (List.append_inj_left h (by rw[a.2,b.2]))
theorem FY{c:Nat}:∀a b:Vec c,dm c a=dm c b->a=b:=λa b h=>by
 injection h with h;injection h with h;refine KG ?_;exact List.map_inj_right (λx y h=>by injection h)|>.1 h
theorem RY{c:Nat}(hc:c<=8):vD Tryz.prog 92 (dm c) where
 qP a:=by
  unfold dm;obtain⟨x0,x1,x2,x3,x4,x5,x6,x7,h⟩:=len8 (mg hc a);rw[h]
  kernel_rfl
 find a aF es h:=O1 (d:=.array 8 3) (by kernel_rfl) (λa b=>rfl) (λa b=>by
  have:=OY (P:=Tryz.prog) (d:=9998) (t:=92) (xs:=iy c a) (ys:=iy c b) (n:=8) (e:=3) (by kernel_rfl) (by kernel_rfl) (by kernel_rfl) (mg hc a) (mg hc b);rw[show decide (a=b)=decide (iy c a=iy c b)from xW.2 ⟨λh=>by rw[h],KG⟩];exact this) a aF es h
 same a:=by
  unfold dm;obtain⟨x0,x1,x2,x3,x4,x5,x6,x7,h⟩:=len8 (mg hc a);rw[h];show((⟨_⟩:Array Value).size==(⟨_⟩:Array Value).size&&(List.zip _ _).all λ(x,y)=>Instr.sameBits 9999 x y)=true;simp[Instr.sameBits]
def mh{α:Type}[DecidableEq α](m:List α)(x:α):List α:=if x∈m then m else m++[x]
theorem FZ{α:Type}[DecidableEq α]{m:List α}{x y:α}:y∈mh m x↔y∈m\/y=x:=by
 unfold mh;split
 ·rename_i h;exact⟨.inl,λk=>k.elim id λe=>e▸h⟩
 ·rw[fI,cB]
theorem adK{α:Type}[DecidableEq α]{m:List α}{x:α}(h:m.Nodup):(mh m x).Nodup:=by
 unfold mh;split
 ·exact h
 ·rename_i hx;rw[qh];exact⟨h,by simp,λa ha b hb e=>hx (by rw[<- cB.1 hb,<- e];exact ha)⟩
theorem adL{α:Type}[DecidableEq α]{m:List α}{x:α}:(mh m x).length<=m.length+1:=by
 unfold mh;split<;>simp
def dH{c:Nat}(ks:List (Vec c)):List (Vec c×Value):=ks.map λk=>(k,.bool true)
theorem KH{c:Nat}:∀ks:List (Vec c),(dH ks).map (·.1)=ks
 |[]=>rfl
 |x::ks=>congrArg (x::·) (KH ks)
theorem adM{c:Nat}(ks:List (Vec c)):(dH ks).length=ks.length:=bI ..
theorem KI{c:Nat}(k:Vec c):∀ks:List (Vec c),upd k (.bool true) (dH ks)=dH (mh ks k)
 |[]=>rfl
 |x::ks=>by
  have ih:=KI k ks;have e1:dH (x::ks)=(x,.bool true)::dH ks:=rfl;rw[e1,upd];by_cases h:k=x
  ·subst h;rw[if_pos rfl];unfold mh;rw[if_pos (aS ..)];rfl
  ·rw[if_neg h,ih];unfold mh;by_cases hm:k∈ks
   ·rw[if_pos hm,if_pos (bW _ hm)];rfl
   ·rw[if_neg hm,if_neg (λe=>(bZ.1 e).elim h hm)];rfl
theorem adN{c bm:Nat}:aT Tryz.prog (.func 49) [.map (some bm)] [] [] [] (λb:Nat=>.func (.func 69) #[] #[ptr' b]) (λ_=>[]) (λb=>[bU b 0 [.map (some bm)]]) (λ_=>True):=by
 refine aV _ (bB 49) λB w0=>?_;refine go ?_;intro b1;refine go ?_;refine cu (fT (b:=b1)) (h:=?_);exact aj b1 (hv:=rfl) (hp:=trivial)
theorem adO{c b bm:Nat}(hc:c<=8){aF:List (Vec c×Value)}:EJ Tryz.prog (λx:Vec c=>[dm c x]) (.func 69) [] [ptr' b] [bU b 0 [.map (some bm)],vF (dm c) bm aF] (λxs=>xs.Perm (aF.map (·.1))):=by
 intro S inv ok step s0 vG y1 y2 F' h0 hok hy;rw[fC,fC,dw];refine aV _ (bB 69) λB w0=>?_;refine go ?_;refine EE (b:=bm) (aF:=aF) (aN:=dm c) (next:=λr=>?_);refine go ?_;refine dQ (λy:List (Vec c×Value)×S=>aF.length - y.1.length) (λy=>[]) (λy=>tQ (dm c) r bm aF y.1::inv y.2) (λ_=>[]) (λy=>ok (y.1.map (·.1)) y.2/\(∃rest,(y.1++rest).Perm aF)/\∀rest,fF step s0 (y.1.map (·.1)++rest)=fF step y.2 rest) ([],s0) ⟨h0,⟨aF,.refl _⟩,λ_=>rfl⟩ (body:=?_);rintro⟨bY,s⟩ ⟨hos,_,hrun⟩;dsimp only at hos hrun⊢;refine go ?_;refine EF (b:=bm) (aF:=aF) (bY:=bY) (aN:=dm c) (more:=λp rem hp=>?_) (done:=λhp=>?_) FY
 ·have hX:(bY.map (·.1)++p.1::rem.map (·.1)).Perm (aF.map (·.1)):=by
   have:=hp.map (·.1);rw[dM,lc]at this;exact this
  have hlen:=hp.length_eq;rw[dK,nZ]at hlen;have oI:=hy _ s _ _ hos hX;have uw:∃x0 x1 x2 x3 x4 x5 x6 x7,dm c p.1=.agg ⟨[.int .i64 x0,.int .i64 x1,.int .i64 x2,.int .i64 x3,.int .i64 x4,.int .i64 x5,.int .i64 x6,.int .i64 x7]⟩:=by
   obtain⟨x0,x1,x2,x3,x4,x5,x6,x7,h⟩:=len8 (mg hc p.1);exact⟨x0,x1,x2,x3,x4,x5,x6,x7,by unfold dm;rw[h];rfl⟩
  obtain⟨x0,x1,x2,x3,x4,x5,x6,x7,uw⟩:=uw;refine go ?_;refine EG (aN:=dm c) (aF:=aF) (bY:=bY) (p:=p) ?_;dsimp only at oI;rw[uw]at oI⊢;refine go ?_;intro b3;refine go ?_;refine aG oI (next:=λ_ _=>?_);cases hst:(step s p.1).2 with
  |true=>
   have hs1:step s p.1=((step s p.1).1,true):=Prod.ext rfl hst;refine go ?_;refine aY (bY++[p],(step s p.1).1) (by show aF.length - (bY++[p]).length<_;rw[dK,qj];omega) ⟨?_,⟨rem,by show((bY++[p])++rem).Perm aF;rw[gY];exact hp⟩,λrest=>?_⟩
   ·show ok ((bY++[p]).map (·.1)) _;rw[dM];exact hok _ s _ _ hos hX hst
   ·show fF step s0 ((bY++[p]).map (·.1)++rest)=_;rw[dM,gY,hrun];show fF step s (p.1::rest)=_;rw[fF,hs1]
  |false=>
   have hs1:step s p.1=((step s p.1).1,false):=Prod.ext rfl hst;have hr:=hrun (p.1::rem.map (·.1));rw[fF,hs1]at hr;dsimp only at hr;refine go ?_;exact aj (bY.map (·.1)++p.1::rem.map (·.1)) (hv:=rfl) (hp:=hX) (hk:=by rw[hr];exact aL.self _ _)
 ·refine go ?_;have hr:=hrun [];rw[fJ]at hr;exact aj (bY.map (·.1)) (hv:=rfl) (hp:=hp.map (·.1)) (hk:=by rw[hr];apply aL.there;exact aL.all _)
theorem RZ:∀{xs ys:List Int},xs.length=ys.length->(gB jm xs ys<0↔jr xs ys=true)
 |[],[],_=>by simp[gB,jr]
 |x::xs,y::ys,h=>by
  have ih:=RZ (xs:=xs) (ys:=ys) (by simpa using h);rw[Fp,gB];unfold jm at ih⊢;by_cases h1:x<y
  ·rw[if_pos h1,if_pos (by decide)];simp[h1]
  ·by_cases h2:y<x
   ·rw[if_neg h1,if_pos h2,if_pos (by decide)];simp[h1];omega
   ·rw[if_neg h1,if_neg h2,if_neg (by simp),ih];have:x=y:=by omega
    simp[this]
 |[],_::_,h=>by simp at h
 |_::_,[],h=>by simp at h
theorem adP{va vb:Value}{xs ys:List Int}(hx:xs.length<=1000000)(hy:ys.length<=1000000):ik Tryz.prog 52 [va,vb] [ae az va xs,ae az vb ys] (.int .i64 (gB jm xs ys)):=by
 refine aV _ (bB 52) λB w0=>?_;refine go ?_;refine aG (adA (xs:=xs) (ys:=ys) hx hy) (next:=λ_ _=>?_);refine go ?_;exact aj () (hv:=rfl) (hp:=trivial)
theorem adQ:SWO (ltOf (gB jm)):=by
 have h:=XI XH;have hz:=h.zero;have hn:=h.neg;have ht:=h.trans;refine⟨λx=>?_,λx y z h1 h2=>?_,λx y z h1 h2=>?_⟩
 ·have:=(hz x x).2 rfl;exact gq (by omega)
 ·exact fK (ht x y z (sN h1) (sN h2))
 ·have h1:¬gB jm x y<0:=Gj h1;have h2:¬gB jm y z<0:=Gj h2;refine gq λh3=>?_;by_cases e1:gB jm x y=0
  ·rw[(hz x y).1 e1]at h3;exact h2 h3
  by_cases e2:gB jm y z=0
  ·rw[<- (hz y z).1 e2]at h3;exact h1 h3
  have h4:=(hn z y).2 (by omega);have h5:=(hn y x).2 (by omega);have h6:=ht z y x h4 h5;have h7:=(hn z x).1 h6;omega
theorem adR:ET Tryz.prog 51 1 pU:=aai λα _ enc cf g cb blk off cap d w h1 hO eg hcmp hH hblk hsz=>Any.slices_SortFunc Tryz.laysF6 enc h1 cf hO g cb blk off cap d w eg hcmp hH hblk hsz
theorem adS:Jr Tryz.prog 51:=λp cap fv w=>AnyF.slices_SortFunc_none {Tryz.laysF6 with} p cap fv w
theorem R3(f:FuncId)(h2:(Tryz.prog.funcs[f]?).map (λf=>f.name== "runtime.NumGoroutine")=some false)(h3:(Tryz.prog.funcs[f]?).map (λf=>f.body.isSome)=some true):∃fn body,Tryz.prog.funcs[f]? =some fn/\fn.body=some body/\fn.name≠ "runtime.NumGoroutine" :=by
 cases hfn:Tryz.prog.funcs[f]? with
 |none=>rw[hfn]at h2;cases h2
 |some fn=>
  rw[hfn]at h2 h3;have h2:(fn.name== "runtime.NumGoroutine")=false:=Option.some.inj h2;have h3:fn.body.isSome=true:=Option.some.inj h3;obtain⟨body,hb⟩:=Li.1 h3;exact⟨fn,body,rfl,hb,by simpa using h2⟩
theorem adT{a:Option Addr}{m:Nat}{xs:List (List Int)}(hm:m=xs.length)(hl:xs.length<4611686018427387904)(hx:∀x∈xs,x.length<=1000000):
 aT Tryz.prog (.func 51) [.slice a m m,.func (.func 52) ⟨[]⟩ ⟨[]⟩] [] [ap (bC az) (.slice a m m) xs] [] (λ_:List (List Int)=>.tuple ⟨[]⟩) (λys=>[ap (bC az) (.slice a m m) ys]) (λ_=>[]) (λys=>ys.Perm xs/\ys.Pairwise λx y=>¬gB jm y x<0):=by
 subst hm;obtain⟨fn,body,h1,h2,h3⟩:=R3 51 (by kernel_rfl) (by kernel_rfl);obtain⟨gn,EU,g1,g2,g3⟩:=R3 52 (by kernel_rfl) (by kernel_rfl);exact aaf (E:=bC az) (xs:=xs) (F:=[]) (cap:=[]) follows aaj adR adS h1 h2 h3 g1 g2 g3 rfl (by decide) adQ (λx hxm y hym va vb=>adP (hx x hxm) (hx y hym)) hl
theorem adU{P:Program}{ρ:Operand->Value}{t:TypeId}{zero:Value}{x:Operand}(hx:ρ x=.nilIface):Pu P ρ (.zZ t zero true x) (.tuple ⟨[zero,.bool false]⟩):=λh=>by
 simp only[ai.run,hx];rfl
theorem adV{P:Program}{ρ:Operand->Value}{t:TypeId}{zero v:Value}{x:Operand}(hx:ρ x=.iface t v):Pu P ρ (.zZ t zero true x) (.tuple ⟨[v,.bool true]⟩):=λh=>by
 simp only[ai.run,hx,uD];rfl
theorem adW{b4 b5:Nat}:Ez Tryz.prog (.func 45) [] [ptr' b4,ptr' b5] .returning [] [] (λ_:Unit=>.ok (.tuple ⟨[]⟩)) (λ_=>.returning) (λ_=>[]) (λ_=>[]) (λ_=>True):=by
 refine Ow _ (bB 45) λB w0=>?_;refine go ?_;refine Ox (v:=.nilIface) (m':=.returning) rfl ?_;refine(bV rfl rfl (adU rfl)).h ?_;refine go ?_;exact Oz () (hv:=rfl) (hm:=rfl) (hp:=trivial)
abbrev KJ:List PanicEntry:=[{v:=.iface 24 (.int .i64 2),recovered:=false}]
theorem adX{b4 b5:Nat}:Ez Tryz.prog (.func 45) [] [ptr' b4,ptr' b5] (.panicking KJ) [pt b4 (.cells [.slice none 0 0]),pt b5 (.cells [.int .i64 0])] [] (λ_:Unit=>.ok (.tuple ⟨[]⟩)) (λ_=>.panicking [{v:=.iface 24 (.int .i64 2),recovered:=true}])
 (λ_=>[pt b4 (.cells [.slice none 0 0]),pt b5 (.cells [.int .i64 2])]) (λ_=>[]) (λ_=>True):=by
 refine Ow _ (bB 45) λB w0=>?_;refine go ?_;refine Ox (v:=.iface 24 (.int .i64 2)) (m':=.panicking [{v:=.iface 24 (.int .i64 2),recovered:=true}]) rfl ?_;refine(bV rfl rfl (adV rfl)).h ?_;refine go ?_;exact Oz () (hv:=rfl) (hm:=rfl) (hp:=trivial)
end Go.Proofs.YtbdaaopebgcnaaaGreatDoor
namespace Go.Proofs.YtbdaaopebgcnaaaGreatDoor
open Go.Ideal Rk Canon Go.Sort
noncomputable def F3:=ym Tryz.prog 18
theorem adY:jD Tryz.prog 18=some F3:=by kernel_rfl
structure KM where
 v:Value
 e:Int
 X:List (List Int)
abbrev KN(y:KM):Value:=.tuple ⟨[y.v,.int .i64 y.e]⟩
abbrev KP(y:KM):List aB:=[ae (bC az) y.v y.X]
def F4(s:aJ)(l:List aA)(y:KM):Prop:=y.e=qY s l/\y.X=qZ s l
theorem R4{E:Enc (List Int)}(w:Wd):(ae E (.slice none 0 0) ([]:List (List Int))).p w:=.inl ⟨rfl,none,0,rfl,trivial⟩
abbrev R5(b4 b5:Nat):Deferred:={target:=.fn (.func 45) ⟨[ptr' b4,ptr' b5]⟩,args:=⟨[]⟩}
section
variable {B:List Nat} {w0:Wd} {kl aW:List OA} {F:List aB} {l':List (Nat×Value)} {b4 b5:Nat} {n:Nat}
theorem adZ{s:aJ}{l:List aA}(hc:eZ s l=0)(hno:jv s l)(h4:lk l' 4=ptr' b4)(h5:lk l' 5=ptr' b5)(hk:aL [pt b4 (.cells [.slice none 0 0]),pt b5 (.cells [.int .i64 0])] kl aW):
 R (λh=>qM Tryz.prog F3 (zg B w0 (λy=>.ok (KN y)) (λ_=>[]) KP (F4 s l)) (.panic KJ) (act n l' [R5 b4 b5] none none) h) B w0 kl F:=by
 refine EA (m:=.panicking KJ) ?_;refine Oy (aW:=aW) (eu:=λ_=>[pt b4 (.cells [.slice none 0 0]),pt b5 (.cells [.int .i64 2])]++aW) (F2:=λ_=>F) (adX (b4:=b4) (b5:=b5)) (λy v _ _=>?_) (λy ch _ hc=>by cases hc) (hk:=hk) (hF:=.nil) (hk2:=λ_=>bO.app) (hF2:=λ_=>bO.nil);show RL _ _ _ _ .returning _ _ _ _ _;intro w s';have s'':St B w0 ([pt b4 (.cells [.slice none 0 0]),pt b5 (.cells [.int .i64 2])]++aW) [ae (bC az) (.slice none 0 0) ([]:List (List Int))] w:=⟨s'.agree,s'.le,s'.eG,s'.own,λf hf=>by rw[cB.1 hf];exact R4 w⟩
 obtain⟨e1,e2⟩:=Qm hc hno;refine OB (aW:=[pt b4 (.cells [.slice none 0 0]),pt b5 (.cells [.int .i64 2])]++aW) (vs:=[.slice none 0 0,.int .i64 2]) ⟨.slice none 0 0,2,[]⟩ rfl ⟨e1.symm,e2.symm⟩ (hr:=?_) (hk:=.nil) (hF:=by(apply Sub.cons;exact cB.2 rfl;exact Sub.nil)) w s'';show RS l' _ [.cell1 4,.cell1 5] _;exact .cell1 h4 .here rfl (.cell1 h5 (.there .here) rfl .nil)
theorem or_fin{s:aJ}{l:List aA}{v:Value}{X:List (List Int)}{e:Int}(hp:F4 s l ⟨v,e,X⟩)(hF:ae (bC az) v X∈F)(h4:lk l' 4=ptr' b4)(h5:lk l' 5=ptr' b5)(hk:aL [pt b4 (.cells [v]),pt b5 (.cells [.int .i64 e])] kl aW):
 RL Tryz.prog F3 l' [R5 b4 b5] .returning (λr h=>zg B w0 (λy=>.ok (KN y)) (λ_=>[]) KP (F4 s l) r none h) B w0 kl F:=by
 refine Oy (k1:=[]) (aW:=kl) (eu:=λ_=>kl) (F2:=λ_=>F) (adW (b4:=b4) (b5:=b5)) (λ_ _ _ _=>?_) (λ_ ch _ hc=>by cases hc) (hk:=.nil) (hF:=.nil) (hk2:=λ_=>bO.nil) (hF2:=λ_=>bO.nil);show RL _ _ _ _ .returning _ _ _ _ _;intro w s';have s'':=s'.jb hk;refine OB (aW:=[pt b4 (.cells [v]),pt b5 (.cells [.int .i64 e])]++aW) (vs:=[v,.int .i64 e]) ⟨v,e,X⟩ rfl hp (hr:=?_) (hk:=.nil) (hF:=by(apply Sub.cons;exact hF;exact Sub.nil)) w s'';show RS l' _ [.cell1 4,.cell1 5] _;exact .cell1 h4 .here rfl (.cell1 h5 (.there .here) rfl .nil)
end
theorem ad1{vs:List Value}(h:vs.length=8){a0 a1 a2 a3 a4 a5 a6 a7:Value}:fV [a0,a1,a2,a3,a4,a5,a6,a7] 0 vs=some vs:=by
 obtain⟨x0,x1,x2,x3,x4,x5,x6,x7,rfl⟩:=len8 h;rfl
theorem KQ{c:Nat}{m:List (Vec c)}(h:m.Nodup):(m.map (·.1)).Nodup:=List.pairwise_map.2 (List.Pairwise.imp (λhab e=>hab (Subtype.ext e)) h)
abbrev Cm(b n:Nat)(ys:List (List Int)):OA:=I8 λc:Option Nat=>[pt b (.cells [gv (bC az).n c n]),ap (bC az) (gv (bC az).n c n) ys]
theorem ad2{s:aJ}{v1 v2 v3 v4 vl:Value}{l:List aA}(h4:s.c<=4)(hb1:s.lv.length<9223372036854775808)(hb2:s.cl.length<9223372036854775808)(hb3:s.pz.length<9223372036854775808)(hx1:cellsOf v1=some [v1])(hx2:cellsOf v2=some [v2])(hx3:cellsOf v3=some [v3])(hx4:cellsOf v4=some [v4]):
 aT Tryz.prog (.func 18) [.agg ⟨kY s v1 v2 v3 v4⟩,vl] [] [] [mX 0 nQ,ae az v1 s.lv,ae az v2 s.cl,ae iw v3 s.pg,ae az v4 s.pz,ae bR vl l] KN (λ_=>[]) KP (F4 s l):=by
 refine Ey.toC _ ?_ (λ_ _=>rfl);refine YT F3 adY λB w0=>?_;refine go ?_;intro b2 b4 b5;refine go ?_;refine aG (Rj (s:=s) (l:=l) hb1 hb2 hb3 hx1 hx2 hx3 hx4) (next:=λy hy=>?_);subst hy;refine go ?_;refine aM rfl (λh1=>?_) (λh1=>?_)
 ·refine go ?_;refine bX (ae (bC az) (.slice none 0 0) ([]:List (List Int))) (λw _=>R4 w) ?_;exact Y0 ⟨.slice none 0 0,eZ s l,[]⟩ (hv:=rfl) (hp:=⟨(Ql h1).1.symm,(Ql h1).2.symm⟩)
 have h1:eZ s l=0:=rJ.1 h1;have h:=pY h1;have hll:=h.len;have hc1:=h.sh.c1;have hc8:s.c.toNat<=8:=by omega
 have hp1:=h.sh.p1;have wh:=h.sh.p8;refine cu (fT (b:=b2)) (h:=?_);refine go ?_;refine YW ?_;refine go ?_;refine EB (dm s.c.toNat) (λbm=>?_);refine go ?_;refine ED (aN:=dm s.c.toNat) (b:=bm) (v:=.bool true) (aF:=[]) (RY hc8) ⟨List.replicate s.c.toNat 0,xY⟩ ?_ (ha:=?_)
 rotate_left
 ·show Value.agg ⟨[0,0,0,0,0,0,0,0].map (Value.int .i64)⟩=_;unfold dm iy;rw[<- aaW hc8];rfl
 rw[show upd (⟨List.replicate s.c.toNat 0,xY⟩:Vec s.c.toNat) (Value.bool true) []=dH [⟨List.replicate s.c.toNat 0,xY⟩]from rfl];refine go ?_;refine dQ (λy:Nat×Nat×List (Vec s.c.toNat)=>s.p.toNat - y.1) (λy=>[(27,.int .i64 (y.1:Int)),(7,.map (some y.2.1))]) (λy=>[jR (dm s.c.toNat) y.2.1 (dH y.2.2)]) (λ_=>[]) (λy=>(y.1:Int)<=s.p/\y.2.2.Nodup/\(∀t:Vec s.c.toNat,t∈y.2.2↔t.1∈dS s l y.1)/\∀q,q<y.1->(dS s l (q+1)).length<=4096)
  (0,bm,[⟨List.replicate s.c.toNat 0,xY⟩]) ⟨by show(0:Int)<=_;omega,by simp,λt=>by rw[cB];show _↔t.1∈[List.replicate s.c.toNat 0];rw[cB];exact⟨λe=>congrArg Subtype.val e,λe=>Subtype.ext e⟩,λq hq=>absurd hq (Nat.not_lt_zero _)⟩ (hk:=by repeat (first|exact aL.nil|(apply aL.cons;(focus (repeat (first|exact ah.here|apply ah.there)))))) (body:=?_)
 rintro⟨p,bm,ks⟩ ⟨hp,hnd,hks,hlim⟩;dsimp only at hp hnd hks hlim⊢;refine go ?_;refine aM rfl (λh2=>?_) (λh2=>?_)
 ·have nk:=uh l (p:Int);have htop:∀i,i<(wl l p).length->hi (wl l p) i<=oG:=λi hi=>(vN h.rs hi).2.2;have hlo:∀i,i<(wl l p).length->0<=lo (wl l p) i:=λi hi=>(vN h.rs hi).1;have agD:=abu h.rs (p:Int);have hpl:=PS htop (by omega);have hrg:∀{t:List Int},t∈dS s l p->∀x∈t,0<=x/\x<=(p:Int)*33554432:=Qk hll p;refine go ?_;refine aG (acX (l:=l) (p:=(p:Int)) (by omega)) (next:=λvo _=>?_);refine go ?_;refine EB (dm s.c.toNat) (λbn=>?_);refine go ?_;refine aG (adJ (vl:=vl) (vo:=vo) (l:=l) (p:=(p:Int)) (s:=s) h.rs hll (by omega)) (next:=λvq _=>?_);refine cu Jd (A:=jR (dm s.c.toNat) bm (dH ks)) (fs:=[vF (dm s.c.toNat) bm (dH ks)]) (h:=?_);refine go ?_;refine dQ (λy:Nat×List (Vec s.c.toNat)=>(jJ (wl l p)).length - y.1) (λy=>[(38,.int .i64 (y.1:Int))]) (λy=>[jR (dm s.c.toNat) bn (dH y.2)]) (λ_=>[]) (λy=>y.1<=(jJ (wl l p)).length/\y.2.Nodup/\(∀t∈y.2,t.1∈dS s l (p+1))/\(∀(i:Nat) aU u,i<y.1->(jJ (wl l p))[i]? =some aU->u∈dS s l p->∃t∈y.2,t.1=iL s l p aU u)/\y.2.length<=4096)
   (0,[]) ⟨dY _,Gl,(λt ht=>by cases ht),λi aU u hi=>absurd hi (Nat.not_lt_zero _),dY _⟩ (hk:=by repeat (first|exact aL.nil|(apply aL.cons;(focus (repeat (first|exact ah.here|apply ah.there)))))) (body:=?_)
  rintro⟨k,ms⟩ ⟨hk,hmn,hms,hmo,hml⟩;dsimp only at hk hmn hms hmo hml⊢;refine go ?_;refine aM rfl (λh3=>?_) (λh3=>?_)
  ·refine go ?_;refine eX (bC az) (k:=k) (next:=λ_ _ aU (vp:Value) R6=>?_);have KS:=dA R6;have ad3:aU.length=(cz l p).length:=by rw[aa5 htop KS,nk]
   have ad4:∀x∈aU,0<=x/\x<=1048576:=λx hx=>by have:=aa6 htop hlo KS hx;omega
   refine go ?_;refine EE (b:=bm) (aF:=dH ks) (aN:=dm s.c.toNat) (next:=λr=>?_);refine go ?_;refine dQ (λy:List (Vec s.c.toNat×Value)×List (Vec s.c.toNat)=>(dH ks).length - y.1.length) (λy=>[]) (λy=>[tQ (dm s.c.toNat) r bm (dH ks) y.1,jR (dm s.c.toNat) bn (dH y.2)]) (λ_=>[]) (λy=>(∃rest,(y.1++rest).Perm (dH ks))/\y.2.Nodup/\(∀t∈y.2,t.1∈dS s l (p+1))/\(∀(i:Nat) aU u,i<k->(jJ (wl l p))[i]? =some aU->u∈dS s l p->∃t∈y.2,t.1=iL s l p aU u)/\y.2.length<=4096/\∀q∈y.1,∃t∈y.2,t.1=iL s l p aU q.1.1)
    ([],ms) ⟨⟨_,.refl _⟩,hmn,hms,hmo,hml,λq hq=>by cases hq⟩ (hk:=by repeat (first|exact aL.nil|(apply aL.cons;(focus (repeat (first|exact ah.here|apply ah.there)))))) (body:=?_)
   rintro⟨bY,ms⟩ ⟨_,hmn,hms,hmo,hml,hmv⟩;dsimp only at hmn hms hmo hml hmv⊢;refine go ?_;refine EF (b:=bm) (aF:=dH ks) (bY:=bY) (aN:=dm s.c.toNat) (more:=λq rem hq=>?_) (done:=λhq=>?_) FY
   ·have hqk:q.1∈ks:=by
     have:q∈dH ks:=hq.mem_iff.1 (by simp);obtain⟨z,hz,e⟩:=gz.1 this;rw[<- e];exact hz
    have R7:=(hks q.1).1 hqk;have hlen:=hq.length_eq;rw[dK,nZ]at hlen;obtain⟨x0,x1,x2,x3,x4,x5,x6,x7,sH⟩:=len8 (mg hc8 q.1);have uw:dm s.c.toNat q.1=.agg ⟨[.int .i64 x0,.int .i64 x1,.int .i64 x2,.int .i64 x3,.int .i64 x4,.int .i64 x5,.int .i64 x6,.int .i64 x7]⟩:=by unfold dm;rw[sH];rfl
    have hrx:∀x∈[x0,x1,x2,x3,x4,x5,x6,x7],0<=x/\x<=1099511627776:=λx hx=>by
     rw[<- sH]at hx;rcases fI.1 hx with hx|hx
     ·have:=hrg R7 x hx;omega
     ·rw[Tw hx];omega
    have hadd:(⟨(iL s l p aU [x0,x1,x2,x3,x4,x5,x6,x7]).map (Value.int .i64)⟩:Array Value)=⟨(iy s.c.toNat ⟨iL s l p aU q.1.1,by rw[qX,q.1.2]⟩).map (.int .i64)⟩:=by
     rw[<- sH];unfold iy;rw[aaU h (by rw[q.1.2];omega)]
    refine go ?_;refine EG (aN:=dm s.c.toNat) (aF:=dH ks) (bY:=bY) (p:=q) ?_;rw[uw];refine go ?_;intro b13;refine go ?_;refine aG (ac0 (s:=s) (l:=l) (p:=p) (aU:=aU) (t:=[x0,x1,x2,x3,x4,x5,x6,x7]) h h2 ad3 ad4 rfl hrx) (next:=λ_ _=>?_);refine go ?_;refine ED (aN:=dm s.c.toNat) (b:=bn) (v:=.bool true) (aF:=dH ms) (RY hc8) ⟨iL s l p aU q.1.1,by rw[qX,q.1.2]⟩ ?_ (ha:=congrArg Value.agg hadd);rw[KI];refine go ?_;refine Y7 (b:=bn) (aN:=dm s.c.toNat) ?_;rw[adM];have hal:=adL (m:=ms) (x:=(⟨iL s l p aU q.1.1,by rw[qX,q.1.2]⟩:Vec s.c.toNat));have KT:∀t∈mh ms (⟨iL s l p aU q.1.1,by rw[qX,q.1.2]⟩:Vec s.c.toNat),t.1∈dS s l (p+1):=λt ht=>by
     rcases FZ.1 ht with ht|ht
     ·exact hms t ht
     ·rw[ht];exact xA.2 ⟨_,R7,aU,KS,rfl⟩
    have KU:=adK (x:=(⟨iL s l p aU q.1.1,by rw[qX,q.1.2]⟩:Vec s.c.toNat)) hmn;have hself:(⟨iL s l p aU q.1.1,by rw[qX,q.1.2]⟩:Vec s.c.toNat)∈mh ms (⟨iL s l p aU q.1.1,by rw[qX,q.1.2]⟩:Vec s.c.toNat):=FZ.2 (.inr rfl);have hsub:∀t∈ms,t∈mh ms (⟨iL s l p aU q.1.1,by rw[qX,q.1.2]⟩:Vec s.c.toNat):=λt ht=>FZ.2 (.inl ht);generalize mh ms (⟨iL s l p aU q.1.1,by rw[qX,q.1.2]⟩:Vec s.c.toNat)=KV at hal KT KU hself hsub⊢;refine go ?_;refine aM rfl (λe1=>?_) (λe1=>?_)
    ·have hL:jv s l:=Qn (p:=p) (by omega) (m:=KV.map (·.1)) (KQ KU) (λu hu=>by
      obtain⟨t,ht,rfl⟩:=gz.1 hu;exact KT t ht) (by rw[bI];omega)
     refine go ?_;refine YV ?_;refine go ?_;exact adZ h1 hL rfl rfl (by repeat (first|exact aL.nil|(apply aL.cons;(focus (repeat (first|exact ah.here|apply ah.there))))))
    ·refine go ?_;refine aY (bY++[q],KV) (by show(dH ks).length - (bY++[q]).length<(dH ks).length - bY.length;rw[dK,qj];omega) ⟨⟨rem,by show((bY++[q])++rem).Perm _;rw[gY];exact hq⟩,KU,KT,λi aU u hi hg hu=>?_,by show KV.length<=4096;omega,λz hz=>?_⟩
     ·obtain⟨t,ht,e⟩:=hmo i aU u hi hg hu;exact⟨t,hsub t ht,e⟩
     ·rcases fI.1 hz with hz|hz
      ·obtain⟨t,ht,e⟩:=hmv z hz;exact⟨t,hsub t ht,e⟩
      ·rw[cB.1 hz];exact⟨_,hself,rfl⟩
   ·refine go ?_;refine aY (k+1,ms) (by show(jJ (wl l p)).length - (k+1)<(jJ (wl l p)).length - k;omega) ⟨by show k+1<=_;omega,hmn,hms,λi ad5 u hi hg hu=>?_,hml⟩;by_cases e:i=k
    ·subst e;cases R6.symm.trans hg;have hu2:(⟨u,kV hu⟩:Vec s.c.toNat)∈ks:=(hks ⟨u,kV hu⟩).2 hu;have:((⟨u,kV hu⟩:Vec s.c.toNat),Value.bool true)∈dH ks:=gz.2 ⟨_,hu2,rfl⟩;exact hmv _ (hq.mem_iff.2 this)
    ·exact hmo i ad5 u (by omega) hg hu
  have hkl:k=(jJ (wl l p)).length:=by omega
  subst hkl;have hiff:∀t:Vec s.c.toNat,t∈ms↔t.1∈dS s l (p+1):=λt=>⟨hms t,λht=>by
   obtain⟨u,hu,aU,hpm,e⟩:=xA.1 ht;obtain⟨i,hi⟩:=oM hpm;obtain⟨t',ht',e'⟩:=hmo i aU u (dU.1 hi).1 hi hu;rw[show t=t' from Subtype.ext (e.trans e'.symm)];exact ht'⟩
  refine go ?_;refine aY (p+1,bn,ms) (by show s.p.toNat - (p+1)<s.p.toNat - p;omega) ⟨by show((p+1:Nat):Int)<=_;omega,hmn,hiff,λq hq=>?_⟩;by_cases e:q=p
  ·subst e;have:=xq (a:=dS s l (q+1)) (b:=ms.map (·.1)) (Fs ..).nodup λu hu=>gz.2 ⟨⟨u,kV hu⟩,(hiff ⟨u,kV hu⟩).2 hu,rfl⟩;rw[bI]at this;omega
  ·exact hlim q (by have:q<p+1:=hq;omega)
 have hpe:p=s.p.toNat:=by omega
 subst hpe;have hL:¬jv s l:=by
  rintro⟨q,hq,hgt⟩;have:=hlim q hq;omega
 obtain⟨oe,ox⟩:=Fu h1 hL;have hkl:=aa4 (KQ hnd) (Fs s l s.p.toNat).nodup (λu=>⟨λhu=>by
  obtain⟨t,ht,rfl⟩:=gz.1 hu;exact(hks t).1 ht,λhu=>gz.2 ⟨⟨u,kV hu⟩,(hks ⟨u,kV hu⟩).2 hu,rfl⟩⟩)
 rw[bI]at hkl;have hne:dS s l s.p.toNat≠[]:=JS h.rs _;have hpos:0<(dS s l s.p.toNat).length:=rF.2 hne;have hle:(dS s l s.p.toNat).length<=4096:=by
  have:=hlim (s.p.toNat - 1) (by omega)
  rwa [show s.p.toNat - 1+1=s.p.toNat by omega]at this
 refine go ?_;refine aG (adN (c:=s.c.toNat) (bm:=bm)) (next:=λb1 _=>?_);refine cu Jd (A:=jR (dm s.c.toNat) bm (dH ks)) (fs:=[vF (dm s.c.toNat) bm (dH ks)]) (h:=?_);refine go ?_;rw[show Value.slice none 0 0=gv (bC az).n none 0 from rfl];refine wW (bC az) ?_;rw[show Value.slice none 0 0=gv (bC az).n none 0 from rfl];refine Oo (λc:Option Nat=>[pt b4 (.cells [gv (bC az).n c 0]),ap (bC az) (gv (bC az).n c 0) ([]:List (List Int))]) none (h:=?_);refine O4 (A:=Cm b4 0 ([]:List (List Int))) (A':=Cm b4 ([]:List (List Int)).length ([]:List (List Int))) rfl ?_;refine OP (Z:=Nat) (λ(ys:List (List Int)) (x:Vec s.c.toNat)=>(ys++[x.1],Out.normal)) (λys=>[Cm b4 ys.length ys]) (λvs ys=>ys=vs.map (·.1)) [] _ (λx z=>[pt z (.cells ((iy s.c.toNat x).map (.int .i64)))]) rfl (λvs s x rest hs hX _=>by rw[hs,dM];rfl) (adO (b:=b1) (bm:=bm) hc8 (aF:=dH ks)) (by
  intro s' x lo o B w0;dsimp only[List.zip_cons_cons,List.zip_nil_left,List.reverse_cons,List.reverse_nil,List.nil_append,List.cons_append];refine go ?_;intro b14;refine(NU (b:=b14) (cs:=[.int .i64 0,.int .i64 0,.int .i64 0,.int .i64 0,.int .i64 0,.int .i64 0,.int .i64 0,.int .i64 0]) (vs:=(iy s.c.toNat x).map (.int .i64)) (c:=(iy s.c.toNat x).map (.int .i64)) rfl rfl rfl (by rw[qw,bI,mg hc8];rfl) .here (ad1 (by rw[bI,mg hc8]))).h ?_;refine go ?_;exact Jh b14 rfl) ?_ ?_ (λ_ _=>trivial)
 ·intro vs ys x rest z lo L B w0 hs hx;subst hs;dsimp only[List.cons_append,List.nil_append];have hlen:(vs.map (·.1)).length<=4096:=by
   have h2:=hx.length_eq;rw[dK,KH]at h2;rw[bI];omega
  generalize vs.map (·.1)=ys at hlen⊢;refine Om (h:=λc0=>?_);generalize hv:gv (bC az).n c0 ys.length=v;refine go ?_;refine(bV rfl rfl (ac5 (m:=s.c.toNat) rfl (by show Value.int .i64 _=_;congr 1;omega) (by omega))).h ?_;refine go ?_;refine cu (fT (b:=z) (cs:=(iy s.c.toNat x).map (.int .i64))) (h:=?_);have hxt:(iy s.c.toNat x).take s.c.toNat=x.1:=List.take_left' x.2;refine bX (ae az (.slice (some ⟨z,0,some 0⟩) s.c.toNat 8) x.1) (λw hw=>by rw[<- hxt];exact ac6 (hw _ (aS ..)) (by rw[mg hc8];exact hc8) hc8) ?_;refine aG (ac3 (xs:=x.1) (by rw[x.2];omega) (by rw[x.2];omega)) (next:=λvc _=>?_);refine eU (E:=az) (v:=vc) (xs:=x.1) (by simp) λac cc ec=>?_;subst ec;refine go ?_;intro b71;refine go ?_;refine aal (xs:=ys) (bC az) x.1 (.slice ac x.1.length cc) (by omega) (next:=λcb=>?_);refine go ?_;rw[show Value.slice (some ⟨cb,0,some (bC az).n⟩) (ys.length+1) (ys.length+1)=gv (bC az).n (some cb) (ys.length+1)from rfl];refine Oo (λc:Option Nat=>[pt b4 (.cells [gv (bC az).n c (ys.length+1)]),ap (bC az) (gv (bC az).n c (ys.length+1)) (ys++[x.1])]) (some cb) (h:=?_);refine O4 (A:=Cm b4 (ys.length+1) (ys++[x.1])) (A':=Cm b4 (ys++[x.1]).length (ys++[x.1])) (by rw[dK,qj]) ?_;exact Ex () rfl trivial trivial
 ·intro r xs hX;have hrun:∀(ys:List (List Int)) (zs:List (Vec s.c.toNat)),gQ (λ(ys:List (List Int)) (x:Vec s.c.toNat)=>(ys++[x.1],Out.normal)) ys zs=(ys++zs.map (·.1),.normal):=by
   intro ys zs;induction zs generalizing ys with
   |nil=>simp[gQ]
   |cons z zs ih=>rw[gQ];simp only[ih];simp
  rw[hrun,dw];rw[KH]at hX;have qa:=hX.length_eq;have KW:∀u,u∈xs.map (·.1)↔u∈dS s l s.p.toNat:=λu=>by
   constructor
   ·intro hu;obtain⟨t,ht,rfl⟩:=gz.1 hu;exact(hks t).1 (hX.mem_iff.1 ht)
   ·intro hu;exact gz.2 ⟨⟨u,kV hu⟩,hX.mem_iff.2 ((hks ⟨u,kV hu⟩).2 hu),rfl⟩
  have F5:(xs.map (·.1)).Nodup:=KQ (hX.nodup_iff.2 hnd);have hX1:(xs.map (·.1)).length=(dS s l s.p.toNat).length:=by rw[bI];omega
  generalize xs.map (·.1)=Y at KW F5 hX1⊢;dsimp only[List.cons_append,List.nil_append];refine Om (h:=λc0=>?_);cases c0 with
  |none=>
   rw[show gv (bC az).n none Y.length=Value.slice none 0 0 from rfl];exact aan (E:=bC az) (xs:=Y) (by omega)
  |some cb=>
  rw[show gv (bC az).n (some cb) Y.length=.slice (some ⟨cb,0,some 1⟩) Y.length Y.length from rfl];refine go ?_;refine aG (adT (a:=some ⟨cb,0,some 1⟩) (m:=Y.length) (xs:=Y) rfl (by omega) (λx hx=>by have:=kV ((KW x).1 hx);omega)) (next:=λys hys=>?_);have hyX:ys=qZ s l:=by
   rw[ox];have hym:∀u,u∈ys↔u∈dS s l s.p.toNat:=λu=>(hys.1.mem_iff).trans (KW u);refine aa2 ?_ (Fs ..) hym;have hn2:ys.Nodup:=hys.1.nodup_iff.2 F5;refine List.Pairwise.imp_of_mem (R:=λa b=>¬gB jm b a<0/\a≠b) (λ{a b} ha hb hab=>?_) (hys.2.and hn2);have R8:a.length=b.length:=by rw[kV ((hym a).1 ha),kV ((hym b).1 hb)]
   refine JP R8.symm ?_ (Ne.symm hab.2);rw[Bool.eq_false_iff];exact λe=>hab.1 ((RZ R8.symm).2 e)
  have hyl:ys.length=Y.length:=hys.1.length_eq;refine go ?_;refine cu (A:=ap (bC az) (.slice (some ⟨cb,0,some 1⟩) Y.length Y.length) ys) (fs:=[ae (bC az) (.slice (some ⟨cb,0,some 1⟩) Y.length Y.length) ys]) wV (h:=?_);refine EA (m:=.returning) ?_;refine YY ?_;exact or_fin (v:=.slice (some ⟨cb,0,some 1⟩) Y.length Y.length) (X:=ys) (e:=0) ⟨oe.symm,hyX⟩ (aS ..) rfl rfl (by repeat (first|exact aL.nil|(apply aL.cons;(focus (repeat (first|exact ah.here|apply ah.there))))))
