/-
  ranking.Ranking.
-/
import Derived.Test.YtjmgkllpcidhjaaGreatDoorLibLN
set_option linter.all false
set_option maxRecDepth 10000
set_option maxHeartbeats 4000000
namespace Go.Proofs.YtjmgkllpcidhjaaGreatDoor
open Go.Ideal Rk Canon Go.Sort
noncomputable def aaV:eX:=⟨112,[(.xI 3 4),(.tmp 5)],(.seq (kO [kS 2 (.box 0 25),kS 4 (.new [vS,vS,vS] 42),kS 5 (.bI (kI 0))]) (.seq (kO [kS 15 (.mO 6 2),kM 16 1,kS 17 (kC 19 [15,16]),kM 14 17,kS 18 (.extract 14 0),kS 19 (.extract 14 1),kS 6 (.bI 18),kS 5 (.bI 19)]) (.seq (.seq (kO [kM 20 5,kS 21 (.bin .neq 28 20 (kI 0))]) (.cond 21 (.seq (kO [kS 22 (.mO 3 4),kM 23 5,kN (.store 3 4 22),kS 5 (.bI 23)]) .ret) .skip)) (.seq (.ops [24,25,26,27,28,29,30,31,32,33] [kM 24 6,kS 25 (.fB 1 24 (kI 0)),kS 26 (.aP 25),kM 28 6,kS 29 (.fB 1 28 (kI 0)),kS 30 (.aP 29),⟨⟨(some 27),none,(kC 16 [26])⟩,[⟨(some 30),none,(.aP 29)⟩]⟩,kS 32 (.dH 0 4),kS 31 (kC 16 [30]),kN (.store 1 32 27),kS 33 (.dH 1 4),kN (.store 1 33 31)]) (.seq (.seq (kO [kM 34 6,kS 35 (.jf 34),kS 36 (.mv (kI 0))]) (.block 0 (.loop (.seq (kO [kS 37 (.bin .lss 3 36 35)]) (.seq (.cond 37 .skip (.exit 0)) (.seq (.block 1 (.seq (kO [kS 38 (.fB 1 34 36),kS 39 (.aP 38),kS 8 (.bI 39)]) (.seq (kO [kM 40 8,kS 41 (kC 16 [40]),kS 42 (.jf 41),kS 43 (.mv (kI 0))]) (.block 2 (.loop (.seq (kO [kS 44 (.bin .lss 3 43 42)]) (.seq (.cond 44 .skip (.exit 2)) (.seq (.block 3 (.seq (kO [kM 45 43,kS 46 (.fB 1 41 43),kS 47 (.aP 46),kS 9 (.bI 45),kS 10 (.bI 47)]) (.ops [48,49,50,51,52,53,54,55,56,57,58,59,60,61,62,63,64,65,66,67,68,69] [kS 48 (.dH 0 4),kS 49 (.aP 48),kM 50 9,kS 51 (.dH 1 4),kS 52 (.aP 51),kM 53 9,kS 54 (.dH 0 4),kS 55 (.aP 54),kM 56 9,kS 57 (.fB 1 55 56),kS 58 (.aP 57),kM 59 10,kS 60 (.vQ false [58,59]),kS 61 (.dH 1 4),kS 62 (.aP 61),kM 63 9,kS 64 (.fB 1 62 63),kS 65 (.aP 64),kM 66 10,kS 67 (.vQ true [65,66]),kS 68 (.fB 1 49 50),⟨⟨none,none,(.store 1 68 60)⟩,[⟨(some 52),none,(.aP 51)⟩]⟩,kS 69 (.fB 1 52 53),kN (.store 1 69 67)]))) (kO [kS 70 (.bin .add 3 43 (kI 1)),kM 43 70]))))))))) (kO [kS 71 (.bin .add 3 36 (kI 1)),kM 36 71]))))))) (.seq (.seq (kO [kS 72 (.dH 0 2),kS 73 (.aP 72),kS 74 (.mv (kI 0))]) (.block 4 (.loop (.seq (kO [kS 75 (.bin .lss 3 74 73)]) (.seq (.cond 75 .skip (.exit 4)) (.seq (.block 5 (.seq (kO [kM 76 74,kS 11 (.new [vI] 3),kN (.store 1 11 76)]) (.seq (kO [kS 77 (.aP 11),kS 78 (.bin .add 3 77 (kI 1)),kS 12 (.new [vI] 3),kN (.store 1 12 78)]) (.block 6 (.loop (.seq (.seq (kO [kS 79 (.aP 12),kS 80 (.dH 0 2),kS 81 (.aP 80),kS 82 (.bin .lss 3 79 81)]) (.cond 82 .skip (.exit 6))) (.seq (.block 7 (.seq (.ops [85,86,87,88,89,90,91,92,93,94,95,96,97,13] [kM 85 6,kS 86 (.fB 1 85 (kI 0)),kS 87 (.aP 86),kS 88 (.aP 11),kS 89 (.fB 1 87 88),kS 90 (.aP 89),kM 91 6,kS 92 (.fB 1 91 (kI 0)),kS 93 (.aP 92),kS 94 (.aP 12),kS 95 (.fB 1 93 94),kS 96 (.aP 95),kS 13 (.new [vI] 3),kS 97 (kC 50 [90,96]),kN (.store 1 13 97)]) (.seq (kO [kM 98 6,kS 99 (.Bv (.func 52) [] [11,12,13]),kS 100 (kC 51 [98,99])]) (.cond 100 (kO [kS 101 (.dH 2 4),kS 102 (.aP 101),kS 103 (.aP 11),kS 104 (.aP 12),⟨⟨(some 105),none,(.build [vI,vI] [⟨0,⟨1,103⟩⟩,⟨1,⟨1,104⟩⟩])⟩,[]⟩,⟨⟨(some 106),none,(.dY 50 1 [vI,vI] [⟨0,⟨2,105⟩⟩])⟩,[]⟩,kS 107 (.append 50 2 16 102 106),kS 108 (.dH 2 4),kN (.store 1 108 107)]) .skip)))) (.seq (.seq (kO [kS 109 (.aP 12)]) (kO [kS 12 (.new [vI] 3),kN (.store 1 12 109)])) (kO [kS 83 (.aP 12),kS 84 (.bin .add 3 83 (kI 1)),kN (.store 1 12 84)]))))))))) (kO [kS 110 (.bin .add 3 74 (kI 1)),kM 74 110]))))))) (.seq (kO [kS 111 (.mO 3 4),kN (.store 3 4 111),kS 5 (.bI (kI 0))]) .ret)))))))⟩
theorem ag1:ja Tryz.prog 22=some aaV:=by kernel_rfl
def iK:Enc (Int×Int):=⟨2,Unit,λx _=>[.int .i64 x.1,.int .i64 x.2],λ_ _=>[],λ_ _=>rfl⟩
structure Np where
 vb:Value
 vw:Value
 vu:Value
 e:Int
 b:List Int
 w:List Int
 u:List (Int×Int)
abbrev Vk(y:Np):Value:=.tuple ⟨[.agg ⟨[y.vb,y.vw,y.vu]⟩,.int .i64 y.e]⟩
abbrev Vl(y:Np):List aK:=[ah ae y.vb y.b,ah ae y.vw y.w,ah iK y.vu y.u]
def Vm(s:aT)(l:List aG)(y:Np):Prop:=y.e=gJ s l/\(gJ s l≠0->y.b=[]/\y.w=[]/\y.u=[])/\(gJ s l=0->y.b=eF (dV s l)/\y.w=iJ (dV s l)/\y.u=und (dV s l) s.c.toNat)
theorem uf{α:Type}{E:Enc α}(w:Wd):(ah E (.slice none 0 0) ([]:List α)).p w:=.inl ⟨rfl,none,0,rfl,trivial⟩
theorem yY{s:aT}{l:List aG}(h:gJ s l=0):eU s l=0/\¬mG s l:=by
 by_cases h1:eU s l=0
 ·refine⟨h1,λh2=>?_⟩;rw[(Dw h1 h2).1]at h;cases h
 ·rw[(Dv h1).1]at h;exact absurd h h1
theorem Vn{x y:Int}:eY Tryz.prog 50 [.int .i64 x,.int .i64 y] [] (.int .i64 (fG x y)):=by
 refine aX _ (bN 50) λB w0=>?_;refine go ?_;refine aC rfl (λh1=>?_) (λh1=>?_)
 ·refine go ?_;exact aj () (hv:=by rw[fG,if_pos h1];rfl) (hp:=trivial)
 refine go ?_;refine aC rfl (λh2=>?_) (λh2=>?_)
 ·refine go ?_;exact aj () (hv:=by rw[fG,if_neg h1,if_pos h2];rfl) (hp:=trivial)
 refine go ?_;exact aj () (hv:=by rw[fG,if_neg h1,if_neg h2];rfl) (hp:=trivial)
theorem Vo{vl:Value}{xs:List Int}(hl:xs.length<=1000000):bD Tryz.prog (.func 16) [vl] [] [] [ah ae vl xs] (λy:Option Nat=>gv 1 y xs.length) (λy=>[ap ae (gv 1 y xs.length) (aQ xs)]) (λ_=>[]) (λ_=>True):=by
 refine aX MQ Ul λB w0=>?_;refine go ?_;refine nE ae ?_;refine bE (λy:Nat×Option Nat=>xs.length - y.1) (λy=>[(10,.int .i64 (y.1:Int)),(2,gv 1 y.2 y.1)]) (λy=>[ap ae (gv 1 y.2 y.1) ((aQ xs).take y.1)]) (λ_=>[]) (λy=>y.1<=xs.length) (0,none) (bF _) (hk:=by
  show aM [ap ae (.slice none 0 0) []] _ _;repeat (first|exact aM.nil|(apply aM.cons;(focus (repeat (first|exact ai.here|apply ai.there)))))) (body:=?_)
 rintro⟨k,c⟩ hk;dsimp only at hk⊢;generalize hv:gv 1 c k=v;have hrl:(aQ xs).length=xs.length:=bC ..;have htl:((aQ xs).take k).length=k:=by rw[dw];omega
 refine go ?_;refine aC rfl (λh1=>?_) (λh1=>?_)
 ·refine go ?_;intro _ _ x hx;refine go ?_;refine bE (λj=>xs.length - j) (λj:Nat=>[(16,.int .i64 (j:Int)),(5,.int .i64 (1+((xs.take j).countP λm=>decide (x<m):Nat):Int))]) (λ_=>[]) (λ_=>[]) (λj=>j<=xs.length) 0 (bF _) (body:=?_);intro j hj;have hcl:((xs.take j).countP λm=>decide (x<m))<=(xs.take j).length:=Bq;rw[dw]at hcl;refine go ?_;refine aC rfl (λh2=>?_) (λh2=>?_)
  ·refine go ?_;intro _ _ z hz;have hs:((xs.take (j+1)).countP λm=>decide (x<m))=((xs.take j).countP λm=>decide (x<m))+if x<z then 1 else 0:=by rw[dx hz,Br,Bt];simp
   refine go ?_;refine aC rfl (λh3=>?_) (λh3=>?_)
   ·rw[if_pos h3]at hs;refine go ?_;rw[show(1+(((xs.take j).countP λm=>decide (x<m):Nat):Int))+1=1+(((xs.take (j+1)).countP λm=>decide (x<m):Nat):Int)by rw[hs];omega];exact aO (j+1) (by omega) (by omega)
   ·have hs2:((xs.take j).countP λm=>decide (x<m))=((xs.take (j+1)).countP λm=>decide (x<m)):=by rw[hs,if_neg h3,nV]
    rw[hs2];refine go ?_;exact aO (j+1) (by omega) (by omega)
  have hjl:j=xs.length:=by omega
  subst hjl;rw[fK];refine go ?_;intro yS;refine go ?_;have vF:(aQ xs)[k]? =some (1+((xs.countP λm=>decide (x<m):Nat):Int)):=by unfold aQ;rw[bX,hx];rfl
  refine Lr (xs:=(aQ xs).take k) ae (1+((xs.countP λm=>decide (x<m):Nat):Int)) () (by omega) (next:=λcb=>?_);rw[<- dx vF,htl,show Value.slice (some ⟨cb,0,some ae.n⟩) (k+1) (k+1)=gv 1 (some cb) (k+1)from rfl];refine go ?_;exact aO (k+1,some cb) (by show xs.length - (k+1)<xs.length - k;omega) (by show k+1<=_;omega)
 have hkl:k=xs.length:=by omega
 subst hkl;rw[mM (by omega)];refine go ?_;subst hv;exact aj c (hv:=rfl) (hp:=trivial)
theorem agK{fn:Fn}{first cap:List Value}{F1:List aK}{p:List Int->Bool}{va:Value}{xs:List (List Int)}(hl:xs.length<9223372036854775808)(hp:∀x∈xs,∀u,bD Tryz.prog fn (first++[u]) cap [] (ah ae u x::F1) (λ_:Unit=>.bool (p x)) (λ_=>[]) (λ_=>[]) (λ_=>True)):
 bD Tryz.prog (.func 68) [va,.func fn ⟨first⟩ ⟨cap⟩] [] [] (ah (aI ae) va xs::F1) (λr:Int=>.int .i64 r) (λ_=>[]) (λ_=>[]) (λr=>(0<=r↔xs.any p=true)):=by
 refine aX _ (bN 68) λB w0=>?_;refine go ?_;refine bE (λk=>xs.length - k) (λk:Nat=>[(8,.int .i64 (k:Int))]) (λ_=>[]) (λ_=>[]) (λk=>k<=xs.length/\(xs.take k).any p=false) 0 ⟨by omega,by simp⟩ (body:=?_);rintro k ⟨hk,hno⟩;refine go ?_;refine aC rfl (λh1=>?_) (λh1=>?_)
 ·refine go ?_;refine bJ (aI ae) (k:=k) (next:=λ_ _ x (u:Value) hx=>?_);refine go ?_;refine aD (hp x (cZ hx) u) (next:=λ_ _=>?_);refine go ?_;refine iy rfl (λh2=>?_) (λh2=>?_)
  ·refine go ?_;exact aj (k:Int) (hv:=rfl) (hp:=⟨λ_=>List.any_eq_true.2 ⟨x,cZ hx,h2⟩,λ_=>by omega⟩)
  ·refine go ?_;refine aO (k+1) (by omega) ⟨by omega,?_⟩;rw[dx hx,List.any_append,hno];simp[h2]
 have hkl:k=xs.length:=by omega
 subst hkl;rw[fK]at hno;refine go ?_;exact aj (-1) (hv:=rfl) (hp:=⟨λh=>by omega,λh=>by rw[hno]at h;cases h⟩)
theorem agL{fn:Fn}{first cap:List Value}{F1:List aK}{p:List Int->Bool}{va:Value}{xs:List (List Int)}(hl:xs.length<9223372036854775808)(hp:∀x∈xs,∀u,bD Tryz.prog fn (first++[u]) cap [] (ah ae u x::F1) (λ_:Unit=>.bool (p x)) (λ_=>[]) (λ_=>[]) (λ_=>True)):
 bD Tryz.prog (.func 51) [va,.func fn ⟨first⟩ ⟨cap⟩] [] [] (ah (aI ae) va xs::F1) (λ_:Unit=>.bool (xs.any p)) (λ_=>[]) (λ_=>[]) (λ_=>True):=by
 refine aX _ (bN 51) λB w0=>?_;refine go ?_;refine aD (agK hl hp) (next:=λr hr=>?_);refine go ?_;refine aj () (hv:=?_) (hp:=trivial);have:xs.any p=decide (0<=r):=by rw[za,decide_eq_true_iff];exact hr.symm
 rw[this];rfl
theorem agM{b1 b2 b3:Nat}{a b:Nat}{z:Int}{t:List Int}{u:Value}(ha:a<t.length)(hb:b<t.length):bD Tryz.prog (.func 52) ([]++[u]) [ptr' b1,ptr' b2,ptr' b3] [] (ah ae u t::[dG b1 0 [.int .i64 (a:Int)],dG b2 0 [.int .i64 (b:Int)],dG b3 0 [.int .i64 z]]) (λ_:Unit=>.bool (decide (fG (t.getD a 0) (t.getD b 0)≠z))) (λ_=>[]) (λ_=>[]) (λ_=>True):=by
 rw[gL];have hx0:=ng (st:=t) (k:=a) ha;have hy0:=ng (st:=t) (k:=b) hb;generalize t.getD a 0=x at hx0⊢;generalize t.getD b 0=y at hy0⊢;refine aX _ (bN 52) λB w0=>?_;refine go ?_;intro _ _ x' hx _ _ y' hy;cases hx0.symm.trans hx;cases hy0.symm.trans hy;refine go ?_;refine aD (Vn (x:=x) (y:=y)) (next:=λ_ _=>?_);refine go ?_;exact aj () (hv:=rfl) (hp:=trivial)
theorem Vp:∀aa:List (Int×ae.Y),aW ae aa=(aa.map (·.1)).map (.int .i64)
 |[]=>rfl
 |x::xs=>congrArg (Value.int .i64 x.1::·) (Vp xs)
section
variable {P:Program} {B:List Nat} {w0:Wd} {kl kl':List OA} {F:List aK}
theorem H8{y:Option Nat}{xs:List Int}{n:Nat}{Q:IH->Prop}(h0:0<xs.length)(h:∀b,y=some b->R Q B w0 (pt b (.cells (xs.map (.int .i64)))::kl') F)
 (hk:ai (ap ae (gv 1 y n) xs) kl kl'):R Q B w0 kl F:=by
 cases y with
 |none=>exact Ro (E:=ae) (xs:=xs) h0 (hk:=hk)
 |some b=>
  refine acE (b:=b) (f:=1) (m:=n) ae (xs:=xs) (λaa e _ _=>?_) (hk:=hk);rw[Vp,e];exact λw s=>h b rfl w (s.sub (jc.sub (.cons .here)))
end
theorem AZ{s:aT}{v1 v2 v3 v4 vl:Value}{l:List aG}(h4:s.c<=4)(hb1:s.lv.length<9223372036854775808)(hb2:s.cl.length<9223372036854775808)(hb3:s.pz.length<9223372036854775808)(hx1:cellsOf v1=some [v1])(hx2:cellsOf v2=some [v2])(hx3:cellsOf v3=some [v3])(hx4:cellsOf v4=some [v4]):
 bD Tryz.prog (.func 22) [.agg ⟨kz s v1 v2 v3 v4⟩,vl] [] [] [lG 0 mh,ah ae v1 s.lv,ah ae v2 s.cl,ah fw v3 s.pg,ah ae v4 s.pz,ah cO vl l] Vk (λ_=>[]) Vl (Vm s l):=by
 refine aX aaV ag1 λB w0=>?_;refine go ?_;intro b2 b4;refine go ?_;refine bG (eP (b:=b2)) (h:=?_);refine aD (yX (s:=s) (l:=l) h4 hb1 hb2 hb3 hx1 hx2 hx3 hx4) (next:=λy hy=>?_);obtain⟨vx,e,X⟩:=y;obtain⟨rfl,rfl⟩:=hy;dsimp only;refine go ?_;refine aC rfl (λh1=>?_) (λh1=>?_)
 ·refine go ?_;refine cK (ah ae (.slice none 0 0) ([]:List Int)) (λw _=>uf w) ?_;refine cK (ah iK (.slice none 0 0) ([]:List (Int×Int))) (λw _=>uf w) ?_;exact aj ⟨.slice none 0 0,.slice none 0 0,.slice none 0 0,gJ s l,[],[],[]⟩ (hv:=rfl) (hp:=⟨rfl,λ_=>⟨rfl,rfl,rfl⟩,λk=>absurd k h1⟩)
 have h1:gJ s l=0:=sG.1 h1;obtain⟨hck,hL⟩:=yY h1;have h:=mX hck;have hc1:=h.sh.c1;have Nq:=(qQ hck hL).2;have hne:=yK hck hL;have fA:∀x∈dV s l,x.length=s.c.toNat:=λx hx=>uW hx;have hlen:(dV s l).length<=4096:=by
  rw[Nq];apply Classical.byContradiction;intro hgt;exact hL ⟨s.p.toNat - 1,by have:=h.sh.p1;omega,by rw[show s.p.toNat - 1+1=s.p.toNat by have:=h.sh.p1;omega];omega⟩
 generalize hX:dV s l=X at hne fA hlen;obtain⟨x0,hX0,hhd⟩:∃x0,X[0]? =some x0/\X.headD []=x0:=by
  obtain⟨x0,X',rfl⟩:=List.exists_cons_of_ne_nil hne;exact⟨x0,rfl,rfl⟩
 have hpos:0<X.length:=o9.2 hne;have agN:=fA x0 (cZ hX0);have hr0:=oQ x0;refine go ?_;refine bJ (aI ae) (k:=0) (next:=λ_ _ t (u:Value) ht=>?_);cases hX0.symm.trans ht;refine go ?_;refine bJ (aI ae) (k:=0) (next:=λ_ _ t (u':Value) ht=>?_);cases hX0.symm.trans ht;refine go ?_;refine aD (Vo (xs:=x0) (by omega)) (next:=λya _=>?_);refine H8 (by omega) (λbb eb=>?_) (hk:=.here);subst eb;refine go ?_;refine aD (Vo (xs:=x0) (by omega)) (next:=λyb _=>?_);refine H8 (by omega) (λbw ew=>?_) (hk:=.here);subst ew;rw[show gv 1 (some bb) x0.length=.slice (some ⟨bb,0,some 1⟩) x0.length x0.length from rfl,show gv 1 (some bw) x0.length=.slice (some ⟨bw,0,some 1⟩) x0.length x0.length from rfl];refine go ?_;have hbl:∀n,n<=X.length->(jl X (aQ x0) n).length=s.c.toNat:=λn hn=>Dy (by omega) fA n hn;have hwl:∀n,n<=X.length->(jm X (aQ x0) n).length=s.c.toNat:=λn hn=>Dz (by omega) fA n hn;refine bE (λk=>X.length - k) (λk:Nat=>[(36,.int .i64 (k:Int))]) (λk=>[pt bb (.cells ((jl X (aQ x0) k).map (.int .i64))),pt bw (.cells ((jm X (aQ x0) k).map (.int .i64)))]) (λ_=>[]) (λk=>k<=X.length) 0 (bF _) (hk:=by repeat (first|exact aM.nil|(apply aM.cons;(focus (repeat (first|exact ai.here|apply ai.there)))))) (body:=?_);intro k hk;have hbk:=hbl k hk;have hwk:=hwl k hk;refine go ?_;refine aC rfl (λh2=>?_) (λh2=>?_)
 ·refine go ?_;refine bJ (aI ae) (k:=k) (next:=λ_ _ t (u:Value) ht=>?_);have htl:=fA t (cZ ht);have hrt:=oQ t;have hbs:=Gv (b0:=aQ x0) ht;have hws:=Gw (b0:=aQ x0) ht;refine go ?_;refine aD (MW (xs:=t) (by omega)) (next:=λvr _=>?_);refine go ?_;generalize jl X (aQ x0) k=b0 at hbk hbs⊢;generalize jm X (aQ x0) k=c0 at hwk hws⊢;have hb0:b0.length=(aQ t).length:=by omega
  have hc0:c0.length=(aQ t).length:=by omega
  refine bE (λj=>(aQ t).length - j) (λj:Nat=>[(43,.int .i64 (j:Int))]) (λj=>[pt bb (.cells ((iR min b0 (aQ t) j).map (.int .i64))),pt bw (.cells ((iR max c0 (aQ t) j).map (.int .i64)))]) (λ_=>[]) (λj=>j<=(aQ t).length) 0 (bF _) (hk:=by
   rw[Gx,Gx];repeat (first|exact aM.nil|(apply aM.cons;(focus (repeat (first|exact ai.here|apply ai.there)))))) (body:=?_)
  intro j hj;refine go ?_;refine aC rfl (λh3=>?_) (λh3=>?_)
  ·have hjl:j<(aQ t).length:=by omega
   have hzb:=Gz (f:=min) hb0 (n:=j) hj;have hzc:=Gz (f:=max) hc0 (n:=j) hj;have hxb:b0[j]? =some (b0[j]'(by omega)):=bf _;have yZ:c0[j]? =some (c0[j]'(by omega)):=bf _;have hgb:=(GA (f:=min) hb0 hjl).trans hxb;have hgc:=(GA (f:=max) hc0 hjl).trans yZ;refine go ?_;intro _ _ z hz;have hsb:=GD (f:=min) hb0 hxb hz;have hsc:=GD (f:=max) hc0 yZ hz;generalize b0[j]'(by omega)=xb at hxb hgb hsb;generalize c0[j]'(by omega)=xc at yZ hgc hsc;refine go ?_;refine jU (o:=0+j*1) (cs:=(iR min b0 (aQ t) j).map (.int .i64)) (.int .i64 xb) (by rw[dD,gT,bX,hgb];rfl) ?_;refine go ?_;refine(bO rfl rfl (rR rfl rfl)).h ?_;refine go ?_;refine jU (o:=0+j*1) (cs:=(iR max c0 (aQ t) j).map (.int .i64)) (.int .i64 xc) (by rw[dD,gT,bX,hgc];rfl) ?_;refine go ?_;refine(bO rfl rfl (nG rfl rfl)).h ?_;refine go ?_;refine(Qg (re:=_::_) (b:=bb) (o:=0+j*1) (cs:=(iR min b0 (aQ t) j).map (.int .i64)) (vs:=[.int .i64 (min xb z)]) (c:=(iR min b0 (aQ t) (j+1)).map (.int .i64)) rfl rfl rfl rfl rfl (by repeat (first|exact ai.here|apply ai.there)) (by
    rw[JY _ _ _ (by rw[bC];omega),<- hsb,pI];simp) (qI rfl (by repeat (first|with_reducible exact ai.here|with_reducible apply ai.there)) rfl rfl rQ)).h ?_
   refine go ?_;refine p9 (o:=0+j*1) (cs:=(iR max c0 (aQ t) j).map (.int .i64)) (cs':=(iR max c0 (aQ t) (j+1)).map (.int .i64)) (v:=.int .i64 (max xc z)) (by rw[dD,gT,<- hsc,pI]) (by rw[bC];omega) ?_;refine go ?_;exact aO (j+1) (by omega) (by omega)
  have hjl:j=(aQ t).length:=by omega
  subst hjl;rw[Gy hb0,Gy hc0,<- hbs,<- hws];refine go ?_;exact aO (k+1) (by omega) (by omega)
 have hkl:k=X.length:=by omega
 subst hkl;rw[show jl X (aQ x0) X.length=eF X by unfold eF;rw[hhd],show jm X (aQ x0) X.length=iJ X by unfold iJ;rw[hhd]];have hbX:(eF X).length=s.c.toNat:=yL hne fA;have hwX:(iJ X).length=s.c.toNat:=yM hne fA;refine nE iK ?_;refine go ?_;refine bE (λy:Nat×Value=>s.c.toNat - y.1) (λy=>[(74,.int .i64 (y.1:Int))]) (λy=>[pt b4 (.cells [.slice (some ⟨bb,0,some 1⟩) x0.length x0.length,.slice (some ⟨bw,0,some 1⟩) x0.length x0.length,y.2]),ap iK y.2 (jJ X s.c.toNat y.1)]) (λ_=>[]) (λy=>y.1<=s.c.toNat) (0,.slice none 0 0) (bF _) (hk:=by
  show aM [_,ap iK (.slice none 0 0) []] _ _;repeat (first|exact aM.nil|(apply aM.cons;(focus (repeat (first|exact ai.here|apply ai.there)))))) (body:=?_)
 rintro⟨a,vu⟩ ha;dsimp only at ha⊢;have ug:=wP X s.c.toNat a;have DD:=AJ (X:=X) (c:=s.c.toNat) (n:=a);have hac:a*s.c.toNat<=4*4:=xC (by omega) (by omega);refine go ?_;refine aC rfl (λh5=>?_) (λh5=>?_)
 ·refine go ?_;intro b11;refine go ?_;intro b12;refine go ?_;refine bG (eP (b:=b11)) (h:=?_);refine bG (eP (b:=b12)) (h:=?_);rw[show(a:Int)+1=((a+1:Nat):Int)from rfl];refine bE (λy:Nat×Nat×Value=>s.c.toNat - y.1) (λy=>[(12,ptr' y.2.1)]) (λy=>[pt b4 (.cells [.slice (some ⟨bb,0,some 1⟩) x0.length x0.length,.slice (some ⟨bw,0,some 1⟩) x0.length x0.length,y.2.2]),ap iK y.2.2 (jJ X s.c.toNat a++kX X a y.1)]) (λy=>[dG y.2.1 0 [.int .i64 (y.1:Int)]]) (λy=>a<y.1/\y.1<=s.c.toNat) (a+1,b12,vu) ⟨qg _,by show a+1<=_;omega⟩ (hk:=by
   rw[Mk,gQ];repeat (first|exact aM.nil|(apply aM.cons;(focus (repeat (first|exact ai.here|apply ai.there)))))) (body:=?_)
  rintro⟨b,q,vu⟩ ⟨hb1',hb2'⟩;dsimp only at hb1' hb2'⊢;have hil:=GG X a b;refine go ?_;refine aC rfl (λh6=>?_) (λh6=>?_)
  ·have his:=DC (X:=X) (a:=a) (b:=b) hb1';refine go ?_;refine bJ (aI ae) (k:=0) (next:=λ_ _ t (u:Value) ht=>?_);cases hX0.symm.trans ht;refine go ?_;intro _ _ x hx;refine go ?_;refine bJ (aI ae) (k:=0) (next:=λ_ _ t (u':Value) ht=>?_);cases hX0.symm.trans ht;refine go ?_;intro _ _ y hy;refine go ?_;intro b13;refine aD (Vn (x:=x) (y:=y)) (next:=λ_ _=>?_);refine go ?_;refine bG (eP (b:=b13)) (h:=?_);have hdf:(X.any λt=>decide (fG (t.getD a 0) (t.getD b 0)≠fG x y))=jI X a b:=by
    unfold jI;rw[hhd,ic hx,ic hy]
   refine aD (agL (fn:=.func 52) (first:=[]) (cap:=[ptr' b11,ptr' q,ptr' b13]) (F1:=[dG b11 0 [.int .i64 (a:Int)],dG q 0 [.int .i64 (b:Int)],dG b13 0 [.int .i64 (fG x y)]]) (p:=λt=>decide (fG (t.getD a 0) (t.getD b 0)≠fG x y)) (xs:=X) (by omega) (λt ht u=>agM (by rw[fA t ht];omega) (by rw[fA t ht];omega))) (next:=λ_ _=>?_);rw[hdf];refine go ?_;refine iy rfl (λh7=>?_) (λh7=>?_)
   ·rw[if_pos h7]at his;refine go ?_;intro agP;refine go ?_;refine nH (xs:=jJ X s.c.toNat a++kX X a b) iK ((a:Int),(b:Int)) () (by rw[dW];omega) (next:=λad=>?_);rw[ik,<- his];refine go ?_;intro Eg;refine go ?_;refine bG (eP (b:=Eg)) (h:=?_);rw[show(b:Int)+1=((b+1:Nat):Int)from rfl];exact aO (b+1,Eg,_) (by show s.c.toNat - (b+1)<s.c.toNat - b;omega) ⟨by show a<b+1;omega,by show b+1<=_;omega⟩
   ·rw[if_neg (by rw[h7];simp)]at his;rw[<- his];refine go ?_;intro Eg;refine go ?_;refine bG (eP (b:=Eg)) (h:=?_);rw[show(b:Int)+1=((b+1:Nat):Int)from rfl];exact aO (b+1,Eg,vu) (by show s.c.toNat - (b+1)<s.c.toNat - b;omega) ⟨by show a<b+1;omega,by show b+1<=_;omega⟩
  have hbe:b=s.c.toNat:=by omega
  subst hbe;rw[<- DD];refine go ?_;exact aO (a+1,vu) (by show s.c.toNat - (a+1)<s.c.toNat - a;omega) (by show a+1<=_;omega)
 have hae:a=s.c.toNat:=by omega
 subst hae;rw[show jJ X s.c.toNat s.c.toNat=und X s.c.toNat from rfl];refine bG (A:=ap iK vu (und X s.c.toNat)) (fs:=[ah iK vu (und X s.c.toNat)]) pX (h:=?_);refine gH (E:=iK) (v:=vu) (xs:=und X s.c.toNat) (by simp) λau cu eu=>?_;subst eu;rw[show x0.length=(eF X).length by omega];refine bG (A:=pt bb (.cells ((eF X).map (.int .i64)))) (fs:=[ah ae (.slice (some ⟨bb,0,some 1⟩) (eF X).length (eF X).length) (eF X)]) (lC (b:=bb) (f:=1) (c:=(eF X).length) (xs:=eF X)) (h:=?_);refine bG (A:=pt bw (.cells ((iJ X).map (.int .i64)))) (fs:=[ah ae (.slice (some ⟨bw,0,some 1⟩) (eF X).length (eF X).length) (iJ X)]) (by rw[show(eF X).length=(iJ X).length by omega];exact lC (b:=bw) (f:=1) (c:=(iJ X).length) (xs:=iJ X)) (h:=?_);refine go ?_;exact aj ⟨.slice (some ⟨bb,0,some 1⟩) (eF X).length (eF X).length,.slice (some ⟨bw,0,some 1⟩) (eF X).length (eF X).length,.slice au (und X s.c.toNat).length cu,0,eF X,iJ X,und X s.c.toNat⟩ (hv:=rfl) (hp:=⟨h1.symm,λk=>absurd h1 k,λ_=>by rw[hX];exact⟨rfl,rfl,rfl⟩⟩)
