/-
  entitle: the outcomes, as a map's keys.
-/
import Derived.Test.YtbdaaopebgcnaaaGreatDoorLibUM
import Derived.Test.YtbdaaopebgcnaaaGreatDoorLibPM
set_option linter.all false
set_option maxRecDepth 10000
set_option maxHeartbeats 4000000
namespace Go.Proofs.YtbdaaopebgcnaaaGreatDoor
open Go.Ideal Rk En
theorem ahA{c:Nat}(hc:c<=8):xq Tryz.prog 81 (dH c) where
 mR a:=by
  unfold dH;obtain⟨x0,x1,x2,x3,x4,x5,x6,x7,h⟩:=len8 (nK hc a);rw[h]
  kernel_rfl
 find a aJ es h:=RJ (d:=.array 8 3) (by kernel_rfl) (λa b=>rfl) (λa b=>by
  have:=RG (P:=Tryz.prog) (d:=9998) (t:=81) (xs:=iX c a) (ys:=iX c b) (n:=8) (e:=3) (by kernel_rfl) (by kernel_rfl) (by kernel_rfl) (nK hc a) (nK hc b);rw[show decide (a=b)=decide (iX c a=iX c b)from zA.2 ⟨λh=>by rw[h],Nu⟩];exact this) a aJ es h
 same a:=by
  unfold dH;obtain⟨x0,x1,x2,x3,x4,x5,x6,x7,h⟩:=len8 (nK hc a);rw[h];show((⟨_⟩:Array Value).size==(⟨_⟩:Array Value).size&&(List.zip _ _).all λ(x,y)=>Instr.sameBits 9999 x y)=true;simp[Instr.sameBits]
section
variable {P:Program} {B:List Nat} {w0:Wd} {kl kl':List OA} {F:List aD} {K:KO} {ds:List Tmp} {rest:List aW} {n:Nat} {l:List (Nat×Value)} {D:List Deferred} {pm:Option FrameMode} {ro:Option Nat} {d:Nat} {g:Option (Tmp×Bool)}
theorem ahB{dst x:Operand}{b m c:Nat}{f:Nat}{cs:List Value}{v:Value}{xs:List Int}(h0:0<xs.length)(hl:xs.length<=m)(hc:cs.length=m)
 (next:R (λh=>aA P ds rest (act n ((d,.int .i64 (xs.length:Int))::l) D pm ro) h K) B w0 (pt b (.cells (xs.map (.int .i64)++cs.drop xs.length))::kl') F)
 (hf:ae ah v xs∈F) (hk:ai (pt b (.cells cs)) kl kl') (hd:ev l dst=.slice (some ⟨b,0,some f⟩) m c:=by rfl) (hx:ev l x=v:=by conv=>lhs;whnf) (hn:Nat.blt d n=true:=by rfl) (hg:bH l g=true:=by rfl):
 R (λh=>aA P ds (⟨⟨some d,g,.copy 1 dst x⟩,[]⟩::rest) (act n l D pm ro) h K) B w0 kl F:=λw s=>by
 obtain⟨aa,h1,h2⟩:=RA (s.facts _ hf);obtain⟨r1,r2⟩:=He h2;have hxl:aa.length=xs.length:=by rw[<- h1,bI]
 rw[hxl]at r1 r2;rw[VG,h1]at r2;obtain⟨k,hk'⟩:∃k,xs.length=k+1:=⟨xs.length - 1,by omega⟩
 have r3:j5 1 xs.length v w.h=some (xs.map (.int .i64)):=by
  rw[hk']at r2⊢;exact r2
 have hb:Nat.ble xs.length m=true:=BD hl;have hlv:gW cs 0 (xs.map (.int .i64))=some (xs.map (.int .i64)++cs.drop xs.length):=by
  have:=G9 (cs1:=[]) (cs2:=cs) (xs:=xs.map (Value.int .i64)) (by rw[bI];omega);rw[bI]at this;exact this
 refine iQ hn hg (v:=.int .i64 (xs.length:Int)) (h':=w.h.set b (.cells (xs.map (.int .i64)++cs.drop xs.length))) ?_ (next _ ((s.fC hk).write));show EZ 1 (ev l dst) (ev l x) w.h=_;rw[hd,hx];unfold EZ;rw[r1];dsimp only;rw[hb];dsimp only[cond];rw[r3];dsimp only;simp only[IH.storeAt,(s.at_ hk).2,hlv];rfl
end
theorem V4{b:Nat}{lo hi n:Int}{sm:Bool}:aX Tryz.prog (.func 37) [ptr' b,.int .i64 n] [] [pt b (.cells [.int .i64 lo,.int .i64 hi,.bool sm])] [] (λ_:Unit=>.tuple ⟨[]⟩) (λ_=>[pt b (.cells [.int .i64 (cond sm (min lo n) n),.int .i64 (cond sm (max hi n) n),.bool true])]) (λ_=>[]) (λ_=>True):=by
 refine aT _ (bz 37) λB w0=>?_;refine go ?_;cases sm with
 |true=>
  refine go ?_;refine(bC rfl rfl (uC rfl rfl)).h ?_;refine go ?_;refine(bC rfl rfl (qm rfl rfl)).h ?_;refine go ?_;exact aj () (hv:=rfl) (hp:=trivial) (hk:=.cons .here .nil)
 |false=>
  refine go ?_;refine(bC rfl rfl (uC (a:=n) (b:=n) rfl rfl)).h ?_;rw[Int.min_self];refine go ?_;refine(bC rfl rfl (qm (a:=n) (b:=n) rfl rfl)).h ?_;rw[Int.max_self];refine go ?_;exact aj () (hv:=rfl) (hp:=trivial) (hk:=.cons .here .nil)
def ug(c:Nat)(t:List Int):Vec c:=if h:t.length=c then⟨t,h⟩else⟨List.replicate c 0,nP⟩
theorem V5{c:Nat}{t:List Int}(h:t.length=c):(ug c t).1=t:=by unfold ug;rw[dif_pos h]
def qG(c:Nat)(pz:List Int)(ks:List (Vec c))(X:List (List Int)):List (Vec c):=X.foldl (λks t=>nL ks (ug c (gI pz t))) ks
theorem ahC(c:Nat)(pz:List Int)(ks:List (Vec c))(X:List (List Int))(t:List Int):qG c pz ks (X++[t])=nL (qG c pz ks X) (ug c (gI pz t)):=by unfold qG;rw[List.foldl_append];rfl
theorem V6{c:Nat}{pz:List Int}{u:Vec c}:∀{X:List (List Int)} {ks:List (Vec c)},u∈qG c pz ks X↔u∈ks\/∃t∈X,u=ug c (gI pz t)
 |[],ks=>by simp[qG]
 |t::X,ks=>by
  show u∈qG c pz (nL ks (ug c (gI pz t))) X↔_;rw[V6,IW];constructor
  ·rintro((h|h)|⟨t',h1,h2⟩)
   ·exact .inl h
   ·exact .inr ⟨t,aR ..,h⟩
   ·exact .inr ⟨t',dw _ h1,h2⟩
  ·rintro(h|⟨t',h1,h2⟩)
   ·exact .inl (.inl h)
   ·rcases bD.1 h1 with rfl|h1
    ·exact .inl (.inr h2)
    ·exact .inr ⟨t',h1,h2⟩
noncomputable def Et(s:aK)(fs:List aU)(day:Int)(st:List (Vec s.c.toNat)×Bool)(x:oL):(List (Vec s.c.toNat)×Bool)×Out:=
 @ite _ (jm s (bO x.1 fs day)) (Classical.propDecidable _) ((st.1,true),.ret) ((qG s.c.toNat s.pz st.1 (dJ s (bO x.1 fs day) s.p.toNat),false),.normal)
theorem Jf{s:aK}{fs:List aU}{day:Int}{st:List (Vec s.c.toNat)×Bool}{x:oL}(h:jm s (bO x.1 fs day)):Et s fs day st x=((st.1,true),.ret):= @if_pos _ (Classical.propDecidable _) h _ _ _
theorem Eu{s:aK}{fs:List aU}{day:Int}{st:List (Vec s.c.toNat)×Bool}{x:oL}(h:¬jm s (bO x.1 fs day)):Et s fs day st x=((qG s.c.toNat s.pz st.1 (dJ s (bO x.1 fs day) s.p.toNat),false),.normal):= @if_neg _ (Classical.propDecidable _) h _ _ _
def Bz(s:aK)(fs:List aU)(day:Int)(ks:List (Vec s.c.toNat))(xs:List oL):List (Vec s.c.toNat):=xs.foldl (λks x=>qG s.c.toNat s.pz ks (dJ s (bO x.1 fs day) s.p.toNat)) ks
theorem V7{s:aK}{fs:List aU}{day:Int}:∀{xs:List oL} {ks:List (Vec s.c.toNat)},(∀x∈xs,¬jm s (bO x.1 fs day))->iL (Et s fs day) (ks,false) xs=((Bz s fs day ks xs,false),.normal)
 |[],ks,_=>rfl
 |x::xs,ks,h=>by
  rw[iL,Eu (h x (aR ..))];exact V7 λy hy=>h y (dw _ hy)
theorem V8{s:aK}{fs:List aU}{day:Int}:∀{xs:List oL} {ks:List (Vec s.c.toNat)},(∃x∈xs,jm s (bO x.1 fs day))->∃ks',iL (Et s fs day) (ks,false) xs=((ks',true),.ret)
 |[],ks,h=>by obtain⟨x,hx,_⟩:=h;cases hx
 |x::xs,ks,h=>by
  by_cases hx:jm s (bO x.1 fs day)
  ·exact⟨ks,by rw[iL,Jf hx]⟩
  ·obtain⟨y,hy,hl⟩:=h;rcases bD.1 hy with rfl|hy
   ·exact absurd hl hx
   ·obtain⟨ks',e⟩:=V8 (xs:=xs) (ks:=qG s.c.toNat s.pz ks (dJ s (bO x.1 fs day) s.p.toNat)) ⟨y,hy,hl⟩;exact⟨ks',by rw[iL,Eu hx];exact e⟩
theorem V9{s:aK}{fs:List aU}{day:Int}{u:Vec s.c.toNat}:∀{xs:List oL} {ks:List (Vec s.c.toNat)},u∈Bz s fs day ks xs↔u∈ks\/∃x∈xs,∃t∈dJ s (bO x.1 fs day) s.p.toNat,u=ug s.c.toNat (gI s.pz t)
 |[],ks=>by simp[Bz]
 |x::xs,ks=>by
  show u∈Bz s fs day (qG s.c.toNat s.pz ks (dJ s (bO x.1 fs day) s.p.toNat)) xs↔_;rw[V9,V6];constructor
  ·rintro((h|⟨t,h1,h2⟩)|⟨y,h1,t,h2,h3⟩)
   ·exact .inl h
   ·exact .inr ⟨x,aR ..,t,h1,h2⟩
   ·exact .inr ⟨y,dw _ h1,t,h2,h3⟩
  ·rintro(h|⟨y,h1,t,h2,h3⟩)
   ·exact .inl (.inl h)
   ·rcases bD.1 h1 with rfl|h1
    ·exact .inl (.inr ⟨t,h2,h3⟩)
    ·exact .inr ⟨y,h1,t,h2,h3⟩
theorem ahD{s:aK}{l:List ak}{o:List Bool}{fs:List aU}{day:Int}{xs:List oL}(h:xs.map (·.1)=(List.range (2^(aS s fs day).length)).map (rd l o (aS s fs day)))(u:Vec s.c.toNat):u∈Bz s fs day [] xs↔u.1∈outs s l o fs day:=by
 have hv:∀{x:List ak} {t:List Int},t∈dJ s x s.p.toNat->(ug s.c.toNat (gI s.pz t)).1=gI s.pz t:=λht=>V5 (by rw[DN,lF ht]);rw[V9];constructor
 ·rintro(h0|⟨x,hx,t,ht,rfl⟩)
  ·cases h0
  ·have:x.1∈xs.map (·.1):=wG hx;rw[h]at this;obtain⟨m,hm,e⟩:=gD.1 this;rw[hv ht];exact xM.2 ⟨m,yj.1 hm,t,by unfold y8;rw[e];exact ht,rfl⟩
 ·intro hu;obtain⟨m,hm,t,ht,e⟩:=xM.1 hu;have:rd l o (aS s fs day) m∈xs.map (·.1):=by rw[h];exact wG (yj.2 hm)
  obtain⟨x,hx,e2⟩:=gD.1 this;have ht2:t∈dJ s (bO x.1 fs day) s.p.toNat:=by rw[e2];exact ht
  exact .inr ⟨x,hx,t,ht2,Subtype.ext (by rw[hv ht2];exact e)⟩
theorem NT{s:aK}{l:List ak}(h:yX s l){n:Nat}{t:List Int}(ht:t∈dJ s l n):qE s.pz (iy t):=
 ⟨h.sh.pz,by rw[Bi,lF ht];have:=h.sh.c8;omega,λx hx=>h.sh.H6 x hx,TT t⟩
end Go.Proofs.YtbdaaopebgcnaaaGreatDoor
namespace Go.Proofs.YtbdaaopebgcnaaaGreatDoor
open Go.Ideal Rk En
structure NU(c:Nat) where
 m:Option Nat
 e:Int
 ks:List (Vec c)
abbrev ahE{c:Nat}(y:NU c):Value:=.tuple ⟨[.map y.m,.int .i64 y.e]⟩
def Ew{c:Nat}:NU c->List aD
 |⟨none,_,_⟩=>[]
 |⟨some b,_,ks⟩=>[xu (dH c) b (dX ks)]
def OcP(s:aK)(l:List ak)(o:List Bool)(fs:List aU)(day:Int)(y:NU s.c.toNat):Prop:=y.e=jZ s l o fs day/\(y.e=0->(∃b,y.m=some b)/\∀u:Vec s.c.toNat,u∈y.ks↔u.1∈outs s l o fs day)
theorem ahG{P:Program}{ρ:Operand->Value}{x:Operand}{b n size:Nat}(hx:ρ x=.pointer (some ⟨b,0,none⟩)):Pu P ρ (.EU n size x none none none) (.slice (some ⟨b,0,some 0⟩) n n):=λh=>by
 have hbd:bounds? n n (fF ρ none) (fF ρ none) (fF ρ none)=some (0,n,n):=rfl;simp only[au.run,hx,hbd];show some (Value.slice (ul b (Nat.add 0 (Nat.mul 0 size))) (Nat.sub n 0) (Nat.sub n 0),h)=_;rw[show Nat.mul 0 size=0 from oQ _];rfl
def BA(c b2 b3 bm:Nat):List (Vec c)×Bool->List OA
 |(ks,false)=>[pt b2 (.cells [.map (some bm)]),pt b3 (.cells [.int .i64 0]),kQ (dH c) bm (dX ks)]
 |(ks,true)=>[pt b2 (.cells [.map none]),pt b3 (.cells [.int .i64 2])]
theorem We{s:aK}{v1 v2 v3 v4 vl vo vf:Value}{l:List ak}{o:List Bool}{fs:List aU}{day:Int}(h4:s.c<=4)(hb1:s.lv.length<9223372036854775808)(hb2:s.cl.length<9223372036854775808)(hb3:s.pz.length<9223372036854775808)(hbf:fs.length<9223372036854775808)(hx1:cellsOf v1=some [v1])(hx2:cellsOf v2=some [v2])(hx3:cellsOf v3=some [v3])(hx4:cellsOf v4=some [v4])(hx5:cellsOf vl=some [vl])(hx6:cellsOf vo=some [vo])(hx7:cellsOf vf=some [vf]):
 aX Tryz.prog (.func 36) [.agg ⟨qL s v1 v2 v3 v4 vl vo vf day⟩] [] [] [l6 0 mU,ae ah v1 s.lv,ae ah v2 s.cl,ae fP v3 s.pg,ae ah v4 s.pz,ae aZ vl l,ae kK vo o,ae dS vf fs] ahE (λ_=>[]) Ew (OcP s l o fs day):=by
 refine Re _ (bz 36) λB w0=>?_;refine go ?_;intro b1 b2 b3;refine bP (fQ (b:=b1)) (h:=?_);refine go ?_;refine aB (Jc (s:=s) (v1:=v1) (v2:=v2) (v3:=v3) (v4:=v4) (vl:=vl) (vf:=vf) (l:=l) (fs:=fs) (day:=day) hb1 hb2 hb3 hbf hx1 hx2 hx3 hx4) (next:=λy hy=>?_);obtain⟨vy,ey,Y⟩:=y;obtain⟨rfl,rfl⟩:=hy;dsimp only;refine go ?_;refine aC rfl (λh1=>?_) (λh1=>?_)
 ·refine go ?_;exact uD ⟨none,eG s l fs day,[]⟩ (hv:=rfl) (hp:=⟨(MU h1).symm,λh=>absurd h h1⟩)
 have h1:eG s l fs day=0:=qd.1 h1;rw[h1];refine go ?_;refine aC rfl (λh2=>?_) (λh2=>?_)
 ·refine go ?_;exact uD ⟨none,550,[]⟩ (hv:=rfl) (hp:=⟨(MV h1 (by omega)).symm,λh=>by cases h⟩)
 have hol:o.length=l.length:=by omega
 have hR:=uM h1;have h:=l7 hR.ck;have hll:=h.len;have hfl:=hR.f16;have hp1:=h.sh.p1;have oJ:=h.sh.p8;have hc1:=h.sh.c1;have hc8:s.c.toNat<=8:=by omega
 have ajT:=h.sh.pz;refine go ?_;refine GL (dH s.c.toNat) (λbm=>?_);refine go ?_;refine aB (ahv (s:=s) (v1:=v1) (v2:=v2) (v3:=v3) (v4:=v4) (vl:=vl) (vo:=vo) (vf:=vf) (day:=day) hx1 hx2 hx3 hx4 hx5 hx6 hx7) (next:=λbq _=>?_);dsimp only[List.cons_append,List.nil_append];refine go ?_;have Wh:∀{xs:List oL},xs.map (·.1)=(List.range (2^(aS s fs day).length)).map (rd l o (aS s fs day))->∀x∈xs,∃m,m<2^(aS s fs day).length/\x.1=rd l o (aS s fs day) m:=λhX x hx=>by
  have:x.1∈_:=wG (f:=Prod.fst) hx;rw[show List.map Prod.fst _=_ from hX]at this;obtain⟨m,hm,e⟩:=gD.1 this;exact⟨m,yj.1 hm,e.symm⟩
 refine acf (Z:=Nat) (Et s fs day) (BA s.c.toNat b2 b3 bm) (λvs st=>st.2=false) ([],false) _ (λ_ _=>[]) rfl (λvs st x rest hs hX hn=>?_) (ahy (b:=bq) (s:=s) (v1:=v1) (v2:=v2) (v3:=v3) (v4:=v4) (vl:=vl) (vo:=vo) (vf:=vf) (l:=l) (o:=o) (fs:=fs) (day:=day) oJ (by omega) hfl hll hol hx1 hx2 hx3 hx4 hx5 hx6 hx7) (by intro st x lo ob B w0;dsimp only[Je,Es,List.zip_cons_cons,List.zip_nil_left,List.reverse_cons,List.reverse_nil,List.nil_append,List.cons_append];refine go ?_;have z0:Nat:=0;exact LJ z0 rfl) ?_ ?_ (λst x=>?_) (hk:=by
  show aI [pt b2 (.cells [.map (some bm)]),pt b3 (.cells [.int .i64 0]),kQ (dH s.c.toNat) bm (dX [])] _ _;repeat (first|exact aI.nil|(apply aI.cons;(focus (repeat (first|exact ai.here|apply ai.there))))))
 ·by_cases hL:jm s (bO x.1 fs day)
  ·rw[Jf hL]at hn;cases hn
  ·rw[Eu hL]
 ·intro vs st x rest z lo L B w0 hs hX;obtain⟨ks,fl⟩:=st;dsimp only at hs;subst hs;obtain⟨m,hm,hxm⟩:=Wh hX x (by simp);obtain⟨xl,vx⟩:=x;dsimp only at hxm;have pV:eG s xl fs day=0:=by rw[hxm,TW hol];exact h1
  have BB:dL s (bO xl fs day)=0:=by rw[hxm];exact Ij h1 hol m
  dsimp only[Es,BA,List.cons_append,List.nil_append];refine go ?_;refine aB (Jc (s:=s) (v1:=v1) (v2:=v2) (v3:=v3) (v4:=v4) (vl:=vx) (vf:=vf) (l:=xl) (fs:=fs) (day:=day) hb1 hb2 hb3 hbf hx1 hx2 hx3 hx4) (next:=λy hy=>?_);obtain⟨vy,ey,Y⟩:=y;obtain⟨rfl,rfl⟩:=hy;dsimp only;rw[pV,Ep pV];refine go ?_;refine aB (VC (s:=s) (v1:=v1) (v2:=v2) (v3:=v3) (v4:=v4) (vl:=vy) (l:=bO xl fs day) h4 hb1 hb2 hb3 hx1 hx2 hx3 hx4) (next:=λy hy=>?_);obtain⟨vz,ez,Z⟩:=y;obtain⟨rfl,rfl⟩:=hy;dsimp only;by_cases hL:jm s (bO xl fs day)
  ·obtain⟨e1,e2⟩:=MH BB hL;rw[e1,e2,Jf (x:=(xl,vx)) hL];dsimp only[BA];refine go ?_;exact GH () rfl trivial trivial
  obtain⟨e1,e2⟩:=yY BB hL;rw[e1,e2,Eu (x:=(xl,vx)) hL];have hck:=l7 BB;have pW:∀t∈dJ s (bO xl fs day) s.p.toNat,t.length=s.c.toNat/\qE s.pz (iy t):=λt ht=>⟨lF ht,NT hck ht⟩
  dsimp only[BA];have IZ:(dJ s (bO xl fs day) s.p.toNat).length<=4096:=by
   apply Classical.byContradiction;intro hgt;exact hL ⟨s.p.toNat - 1,by omega,by rw[show s.p.toNat - 1+1=s.p.toNat by omega];omega⟩
  generalize hXg:dJ s (bO xl fs day) s.p.toNat=X at pW IZ⊢;refine go ?_;refine bR (λk=>X.length - k) (λk:Nat=>[(65,.int .i64 (k:Int))]) (λk=>[kQ (dH s.c.toNat) bm (dX (qG s.c.toNat s.pz ks (X.take k)))]) (λ_=>[]) (λk=>k<=X.length) 0 (cu _) (hk:=by
   show aI [kQ (dH s.c.toNat) bm (dX ks)] _ _;repeat (first|exact aI.nil|(apply aI.cons;(focus (repeat (first|exact ai.here|apply ai.there)))))) (body:=?_)
  intro k hk;refine go ?_;refine aC rfl (λh3=>?_) (λh3=>?_)
  ·refine go ?_;refine cZ (bN ah) (k:=k) (next:=λ_ _ t (vt:Value) ht=>?_);obtain⟨htl,htp⟩:=pW t (dA ht);have hpl:=DN s.pz t;refine go ?_;refine aB (Nl (xs:=t) (by omega)) (next:=λvr _=>?_);refine go ?_;refine aB (NJ (vp:=v4) (vl:=vr) (p:=s.pz) (l:=iy t) hb3 (by rw[Bi];omega)) (next:=λy hy=>?_);obtain⟨ys,vp,ep⟩:=y;obtain⟨q1,q2⟩:=hy.1 htp;dsimp only at q1 q2;subst q1 q2;rw[show(iy t).map (jX s.pz (iy t))=gI s.pz t from rfl];dsimp only[I4,List.cons_append,List.nil_append];refine go ?_;intro b12;refine(bC rfl rfl (ahG (b:=b12) (n:=8) rfl)).h ?_;refine go ?_;refine ahB (b:=b12) (v:=vp) (xs:=gI s.pz t) (m:=8) (cs:=[.int .i64 0,.int .i64 0,.int .i64 0,.int .i64 0,.int .i64 0,.int .i64 0,.int .i64 0,.int .i64 0]) (by omega) (by omega) rfl ?_ (by simp) .here;have hcells:(gI s.pz t).map (Value.int .i64)++List.drop (gI s.pz t).length [.int .i64 0,.int .i64 0,.int .i64 0,.int .i64 0,.int .i64 0,.int .i64 0,.int .i64 0,.int .i64 0]=(iX s.c.toNat (ug s.c.toNat (gI s.pz t))).map (.int .i64):=by
    unfold iX;rw[V5 (by omega),eB,hpl,htl];congr 1;rw[List.map_replicate];show List.drop s.c.toNat (List.replicate 8 (Value.int .i64 0))=_;rw[List.drop_replicate]
   rw[hcells];refine go ?_;refine(Lj (b:=b12) (o:=0) (c:=(iX s.c.toNat (ug s.c.toNat (gI s.pz t))).map (.int .i64)) rfl rfl rfl .here (afp (by rw[bI,nK hc8]))).h ?_;refine go ?_;refine GN (aQ:=dH s.c.toNat) (b:=bm) (v:=.bool true) (aJ:=dX (qG s.c.toNat s.pz ks (X.take k))) (ahA hc8) (ug s.c.toNat (gI s.pz t)) ?_ (ha:=rfl);rw[Nw,<- ahC,<- eD ht];refine go ?_;exact aL (k+1) (by omega) (by omega)
  have hke:k=X.length:=by omega
  subst hke;rw[gV];refine go ?_;exact GH () rfl trivial trivial
 ·intro r xs hX;by_cases hL:∃x∈xs,jm s (bO x.1 fs day)
  ·obtain⟨ks',e⟩:=V8 (ks:=[]) hL;rw[e];obtain⟨x,hx,hl⟩:=hL;obtain⟨m,hm,e2⟩:=Wh hX x hx;have e3:=TU h1 hol (⟨m,hm,e2▸hl⟩:vX s l o fs day);dsimp only[BA,List.cons_append,List.nil_append];refine go ?_;exact uD ⟨none,2,[]⟩ (hv:=rfl) (hp:=⟨e3.symm,λh=>by cases h⟩)
  ·have hno:∀x∈xs,¬jm s (bO x.1 fs day):=λx hx hl=>hL ⟨x,hx,hl⟩;rw[V7 hno];have hall:=ahD (s:=s) (l:=l) (o:=o) (fs:=fs) (day:=day) hX;have e3:=Ii (s:=s) (fs:=fs) (day:=day) h1 hol (λ⟨m,hm,hl⟩=>by
    have:rd l o (aS s fs day) m∈xs.map (·.1):=by rw[hX];exact wG (yj.2 hm)
    obtain⟨x,hx,e⟩:=gD.1 this;exact hno x hx (by rw[e];exact hl))
   dsimp only[BA,List.cons_append,List.nil_append];generalize Bz s fs day [] xs=ks at hall⊢;refine go ?_;refine bP LD (A:=kQ (dH s.c.toNat) bm (dX ks)) (fs:=[xu (dH s.c.toNat) bm (dX ks)]) (h:=?_);exact uD ⟨some bm,0,ks⟩ (hv:=rfl) (hp:=⟨e3.symm,λ_=>⟨⟨bm,rfl⟩,hall⟩⟩) (hF:=by
    show Sub [xu (dH s.c.toNat) bm (dX ks)] _;exact .cons (aR ..) .nil)
 ·by_cases hL:jm s (bO x.1 fs day)
  ·rw[Jf hL];trivial
  ·rw[Eu hL];trivial
