/-
  entitle: the outcomes, as a map's keys.
-/
import Derived.Test.YtbdaaopebgcnaaaGreatDoorLibUM
import Derived.Test.YtbdaaopebgcnaaaGreatDoorLibPM
set_option linter.all false
set_option maxRecDepth 10000
set_option maxHeartbeats 4000000
namespace Go.Proofs.YtbdaaopebgcnaaaGreatDoor
open Go.Ideal Rk En
theorem aeX{c:Nat}(hc:c<=8):vD Tryz.prog 81 (dm c) where
 qP a:=by
  unfold dm;obtain⟨x0,x1,x2,x3,x4,x5,x6,x7,h⟩:=len8 (mg hc a);rw[h]
  kernel_rfl
 find a aF es h:=O1 (d:=.array 8 3) (by kernel_rfl) (λa b=>rfl) (λa b=>by
  have:=OY (P:=Tryz.prog) (d:=9998) (t:=81) (xs:=iy c a) (ys:=iy c b) (n:=8) (e:=3) (by kernel_rfl) (by kernel_rfl) (by kernel_rfl) (mg hc a) (mg hc b);rw[show decide (a=b)=decide (iy c a=iy c b)from xW.2 ⟨λh=>by rw[h],KG⟩];exact this) a aF es h
 same a:=by
  unfold dm;obtain⟨x0,x1,x2,x3,x4,x5,x6,x7,h⟩:=len8 (mg hc a);rw[h];show((⟨_⟩:Array Value).size==(⟨_⟩:Array Value).size&&(List.zip _ _).all λ(x,y)=>Instr.sameBits 9999 x y)=true;simp[Instr.sameBits]
section
variable {P:Program} {B:List Nat} {w0:Wd} {kl kl':List OA} {F:List aB} {K:KO} {ds:List Tmp} {rest:List aP} {n:Nat} {l:List (Nat×Value)} {D:List Deferred} {pm:Option FrameMode} {ro:Option Nat} {d:Nat} {g:Option (Tmp×Bool)}
theorem aeY{dst x:Operand}{b m c:Nat}{f:Nat}{cs:List Value}{v:Value}{xs:List Int}(h0:0<xs.length)(hl:xs.length<=m)(hc:cs.length=m)
 (next:R (λh=>ax P ds rest (act n ((d,.int .i64 (xs.length:Int))::l) D pm ro) h K) B w0 (pt b (.cells (xs.map (.int .i64)++cs.drop xs.length))::kl') F)
 (hf:ae az v xs∈F) (hk:ah (pt b (.cells cs)) kl kl') (hd:ev l dst=.slice (some ⟨b,0,some f⟩) m c:=by rfl) (hx:ev l x=v:=by conv=>lhs;whnf) (hn:Nat.blt d n=true:=by rfl) (hg:aZ l g=true:=by rfl):
 R (λh=>ax P ds (⟨⟨some d,g,.copy 1 dst x⟩,[]⟩::rest) (act n l D pm ro) h K) B w0 kl F:=λw s=>by
 obtain⟨aa,h1,h2⟩:=OT (s.facts _ hf);obtain⟨r1,r2⟩:=EN h2;have hxl:aa.length=xs.length:=by rw[<- h1,bI]
 rw[hxl]at r1 r2;rw[R9,h1]at r2;obtain⟨k,hk'⟩:∃k,xs.length=k+1:=⟨xs.length - 1,by omega⟩
 have r3:jC 1 xs.length v w.h=some (xs.map (.int .i64)):=by
  rw[hk']at r2⊢;exact r2
 have hb:Nat.ble xs.length m=true:=zM hl;have hlv:fV cs 0 (xs.map (.int .i64))=some (xs.map (.int .i64)++cs.drop xs.length):=by
  have:=EM (cs1:=[]) (cs2:=cs) (xs:=xs.map (Value.int .i64)) (by rw[bI];omega);rw[bI]at this;exact this
 refine iD hn hg (v:=.int .i64 (xs.length:Int)) (h':=w.h.set b (.cells (xs.map (.int .i64)++cs.drop xs.length))) ?_ (next _ ((s.eT hk).write));show CS 1 (ev l dst) (ev l x) w.h=_;rw[hd,hx];unfold CS;rw[r1];dsimp only;rw[hb];dsimp only[cond];rw[r3];dsimp only;simp only[IH.storeAt,(s.at_ hk).2,hlv];rfl
end
theorem SC{b:Nat}{lo hi n:Int}{sm:Bool}:aT Tryz.prog (.func 37) [ptr' b,.int .i64 n] [] [pt b (.cells [.int .i64 lo,.int .i64 hi,.bool sm])] [] (λ_:Unit=>.tuple ⟨[]⟩) (λ_=>[pt b (.cells [.int .i64 (cond sm (min lo n) n),.int .i64 (cond sm (max hi n) n),.bool true])]) (λ_=>[]) (λ_=>True):=by
 refine aV _ (bB 37) λB w0=>?_;refine go ?_;cases sm with
 |true=>
  refine go ?_;refine(bV rfl rfl (w9 rfl rfl)).h ?_;refine go ?_;refine(bV rfl rfl (vC rfl rfl)).h ?_;refine go ?_;exact aj () (hv:=rfl) (hp:=trivial) (hk:=.cons .here .nil)
 |false=>
  refine go ?_;refine(bV rfl rfl (w9 (a:=n) (b:=n) rfl rfl)).h ?_;rw[Int.min_self];refine go ?_;refine(bV rfl rfl (vC (a:=n) (b:=n) rfl rfl)).h ?_;rw[Int.max_self];refine go ?_;exact aj () (hv:=rfl) (hp:=trivial) (hk:=.cons .here .nil)
def rD(c:Nat)(t:List Int):Vec c:=if h:t.length=c then⟨t,h⟩else⟨List.replicate c 0,xY⟩
theorem SE{c:Nat}{t:List Int}(h:t.length=c):(rD c t).1=t:=by unfold rD;rw[dif_pos h]
def oK(c:Nat)(pz:List Int)(ks:List (Vec c))(X:List (List Int)):List (Vec c):=X.foldl (λks t=>mh ks (rD c (ku pz t))) ks
theorem aeZ(c:Nat)(pz:List Int)(ks:List (Vec c))(X:List (List Int))(t:List Int):oK c pz ks (X++[t])=mh (oK c pz ks X) (rD c (ku pz t)):=by unfold oK;rw[List.foldl_append];rfl
theorem SF{c:Nat}{pz:List Int}{u:Vec c}:∀{X:List (List Int)} {ks:List (Vec c)},u∈oK c pz ks X↔u∈ks\/∃t∈X,u=rD c (ku pz t)
 |[],ks=>by simp[oK]
 |t::X,ks=>by
  show u∈oK c pz (mh ks (rD c (ku pz t))) X↔_;rw[SF,FZ];constructor
  ·rintro((h|h)|⟨t',h1,h2⟩)
   ·exact .inl h
   ·exact .inr ⟨t,aS ..,h⟩
   ·exact .inr ⟨t',bW _ h1,h2⟩
  ·rintro(h|⟨t',h1,h2⟩)
   ·exact .inl (.inl h)
   ·rcases bZ.1 h1 with rfl|h1
    ·exact .inl (.inr h2)
    ·exact .inr ⟨t',h1,h2⟩
noncomputable def Ct(s:aJ)(fs:List aR)(day:Int)(st:List (Vec s.c.toNat)×Bool)(x:ny):(List (Vec s.c.toNat)×Bool)×Out:=
 @ite _ (jv s (dz x.1 fs day)) (Classical.propDecidable _) ((st.1,true),.ret) ((oK s.c.toNat s.pz st.1 (dS s (dz x.1 fs day) s.p.toNat),false),.normal)
theorem Ga{s:aJ}{fs:List aR}{day:Int}{st:List (Vec s.c.toNat)×Bool}{x:ny}(h:jv s (dz x.1 fs day)):Ct s fs day st x=((st.1,true),.ret):= @if_pos _ (Classical.propDecidable _) h _ _ _
theorem Cu{s:aJ}{fs:List aR}{day:Int}{st:List (Vec s.c.toNat)×Bool}{x:ny}(h:¬jv s (dz x.1 fs day)):Ct s fs day st x=((oK s.c.toNat s.pz st.1 (dS s (dz x.1 fs day) s.p.toNat),false),.normal):= @if_neg _ (Classical.propDecidable _) h _ _ _
def zH(s:aJ)(fs:List aR)(day:Int)(ks:List (Vec s.c.toNat))(xs:List ny):List (Vec s.c.toNat):=xs.foldl (λks x=>oK s.c.toNat s.pz ks (dS s (dz x.1 fs day) s.p.toNat)) ks
theorem SG{s:aJ}{fs:List aR}{day:Int}:∀{xs:List ny} {ks:List (Vec s.c.toNat)},(∀x∈xs,¬jv s (dz x.1 fs day))->gQ (Ct s fs day) (ks,false) xs=((zH s fs day ks xs,false),.normal)
 |[],ks,_=>rfl
 |x::xs,ks,h=>by
  rw[gQ,Cu (h x (aS ..))];exact SG λy hy=>h y (bW _ hy)
theorem SH{s:aJ}{fs:List aR}{day:Int}:∀{xs:List ny} {ks:List (Vec s.c.toNat)},(∃x∈xs,jv s (dz x.1 fs day))->∃ks',gQ (Ct s fs day) (ks,false) xs=((ks',true),.ret)
 |[],ks,h=>by obtain⟨x,hx,_⟩:=h;cases hx
 |x::xs,ks,h=>by
  by_cases hx:jv s (dz x.1 fs day)
  ·exact⟨ks,by rw[gQ,Ga hx]⟩
  ·obtain⟨y,hy,hl⟩:=h;rcases bZ.1 hy with rfl|hy
   ·exact absurd hl hx
   ·obtain⟨ks',e⟩:=SH (xs:=xs) (ks:=oK s.c.toNat s.pz ks (dS s (dz x.1 fs day) s.p.toNat)) ⟨y,hy,hl⟩;exact⟨ks',by rw[gQ,Cu hx];exact e⟩
theorem SI{s:aJ}{fs:List aR}{day:Int}{u:Vec s.c.toNat}:∀{xs:List ny} {ks:List (Vec s.c.toNat)},u∈zH s fs day ks xs↔u∈ks\/∃x∈xs,∃t∈dS s (dz x.1 fs day) s.p.toNat,u=rD s.c.toNat (ku s.pz t)
 |[],ks=>by simp[zH]
 |x::xs,ks=>by
  show u∈zH s fs day (oK s.c.toNat s.pz ks (dS s (dz x.1 fs day) s.p.toNat)) xs↔_;rw[SI,SF];constructor
  ·rintro((h|⟨t,h1,h2⟩)|⟨y,h1,t,h2,h3⟩)
   ·exact .inl h
   ·exact .inr ⟨x,aS ..,t,h1,h2⟩
   ·exact .inr ⟨y,bW _ h1,t,h2,h3⟩
  ·rintro(h|⟨y,h1,t,h2,h3⟩)
   ·exact .inl (.inl h)
   ·rcases bZ.1 h1 with rfl|h1
    ·exact .inl (.inr ⟨t,h2,h3⟩)
    ·exact .inr ⟨y,h1,t,h2,h3⟩
theorem ae0{s:aJ}{l:List aA}{o:List Bool}{fs:List aR}{day:Int}{xs:List ny}(h:xs.map (·.1)=(List.range (2^(bu s fs day).length)).map (rd l o (bu s fs day)))(u:Vec s.c.toNat):u∈zH s fs day [] xs↔u.1∈outs s l o fs day:=by
 have hv:∀{x:List aA} {t:List Int},t∈dS s x s.p.toNat->(rD s.c.toNat (ku s.pz t)).1=ku s.pz t:=λht=>SE (by rw[J5,kV ht]);rw[SI];constructor
 ·rintro(h0|⟨x,hx,t,ht,rfl⟩)
  ·cases h0
  ·have:x.1∈xs.map (·.1):=uF hx;rw[h]at this;obtain⟨m,hm,e⟩:=gz.1 this;rw[hv ht];exact xD.2 ⟨m,wz.1 hm,t,by unfold Fy;rw[e];exact ht,rfl⟩
 ·intro hu;obtain⟨m,hm,t,ht,e⟩:=xD.1 hu;have:rd l o (bu s fs day) m∈xs.map (·.1):=by rw[h];exact uF (wz.2 hm)
  obtain⟨x,hx,e2⟩:=gz.1 this;have ht2:t∈dS s (dz x.1 fs day) s.p.toNat:=by rw[e2];exact ht
  exact .inr ⟨x,hx,t,ht2,Subtype.ext (by rw[hv ht2];exact e)⟩
theorem SK{s:aJ}{l:List aA}(h:BK s l){n:Nat}{t:List Int}(ht:t∈dS s l n):rA s.pz (iT t):=
 ⟨h.sh.pz,by rw[J4,kV ht];have:=h.sh.c8;omega,λx hx=>h.sh.JF x hx,abB t⟩
end Go.Proofs.YtbdaaopebgcnaaaGreatDoor
namespace Go.Proofs.YtbdaaopebgcnaaaGreatDoor
open Go.Ideal Rk En
structure K9(c:Nat) where
 m:Option Nat
 e:Int
 ks:List (Vec c)
abbrev ae1{c:Nat}(y:K9 c):Value:=.tuple ⟨[.map y.m,.int .i64 y.e]⟩
def Cv{c:Nat}:K9 c->List aB
 |⟨none,_,_⟩=>[]
 |⟨some b,_,ks⟩=>[vF (dm c) b (dH ks)]
def OcP(s:aJ)(l:List aA)(o:List Bool)(fs:List aR)(day:Int)(y:K9 s.c.toNat):Prop:=y.e=jL s l o fs day/\(y.e=0->(∃b,y.m=some b)/\∀u:Vec s.c.toNat,u∈y.ks↔u.1∈outs s l o fs day)
theorem ae3{P:Program}{ρ:Operand->Value}{x:Operand}{b n size:Nat}(hx:ρ x=.pointer (some ⟨b,0,none⟩)):Pu P ρ (.CO n size x none none none) (.slice (some ⟨b,0,some 0⟩) n n):=λh=>by
 have hbd:bounds? n n (eO ρ none) (eO ρ none) (eO ρ none)=some (0,n,n):=rfl;simp only[ai.run,hx,hbd];show some (Value.slice (rO b (Nat.add 0 (Nat.mul 0 size))) (Nat.sub n 0) (Nat.sub n 0),h)=_;rw[show Nat.mul 0 size=0 from og _];rfl
def zI(c b2 b3 bm:Nat):List (Vec c)×Bool->List OA
 |(ks,false)=>[pt b2 (.cells [.map (some bm)]),pt b3 (.cells [.int .i64 0]),jR (dm c) bm (dH ks)]
 |(ks,true)=>[pt b2 (.cells [.map none]),pt b3 (.cells [.int .i64 2])]
theorem SL{s:aJ}{v1 v2 v3 v4 vl vo vf:Value}{l:List aA}{o:List Bool}{fs:List aR}{day:Int}(h4:s.c<=4)(hb1:s.lv.length<9223372036854775808)(hb2:s.cl.length<9223372036854775808)(hb3:s.pz.length<9223372036854775808)(hbf:fs.length<9223372036854775808)(hx1:cellsOf v1=some [v1])(hx2:cellsOf v2=some [v2])(hx3:cellsOf v3=some [v3])(hx4:cellsOf v4=some [v4])(hx5:cellsOf vl=some [vl])(hx6:cellsOf vo=some [vo])(hx7:cellsOf vf=some [vf]):
 aT Tryz.prog (.func 36) [.agg ⟨qL s v1 v2 v3 v4 vl vo vf day⟩] [] [] [mX 0 nQ,ae az v1 s.lv,ae az v2 s.cl,ae iw v3 s.pg,ae az v4 s.pz,ae bR vl l,ae mO vo o,ae eF vf fs] ae1 (λ_=>[]) Cv (OcP s l o fs day):=by
 refine Oq _ (bB 36) λB w0=>?_;refine go ?_;intro b1 b2 b3;refine cu (fT (b:=b1)) (h:=?_);refine go ?_;refine aG (Sy (s:=s) (v1:=v1) (v2:=v2) (v3:=v3) (v4:=v4) (vl:=vl) (vf:=vf) (l:=l) (fs:=fs) (day:=day) hb1 hb2 hb3 hbf hx1 hx2 hx3 hx4) (next:=λy hy=>?_);obtain⟨vy,ey,Y⟩:=y;obtain⟨rfl,rfl⟩:=hy;dsimp only;refine go ?_;refine aM rfl (λh1=>?_) (λh1=>?_)
 ·refine go ?_;exact rZ ⟨none,eD s l fs day,[]⟩ (hv:=rfl) (hp:=⟨(J6 h1).symm,λh=>absurd h h1⟩)
 have h1:eD s l fs day=0:=rJ.1 h1;rw[h1];refine go ?_;refine aM rfl (λh2=>?_) (λh2=>?_)
 ·refine go ?_;exact rZ ⟨none,550,[]⟩ (hv:=rfl) (hp:=⟨(J7 h1 (by omega)).symm,λh=>by cases h⟩)
 have hol:o.length=l.length:=by omega
 have hR:=xB h1;have h:=pY hR.ck;have hll:=h.len;have hfl:=hR.f16;have hp1:=h.sh.p1;have wh:=h.sh.p8;have hc1:=h.sh.c1;have hc8:s.c.toNat<=8:=by omega
 have agI:=h.sh.pz;refine go ?_;refine EB (dm s.c.toNat) (λbm=>?_);refine go ?_;refine aG (aeN (s:=s) (v1:=v1) (v2:=v2) (v3:=v3) (v4:=v4) (vl:=vl) (vo:=vo) (vf:=vf) (day:=day) hx1 hx2 hx3 hx4 hx5 hx6 hx7) (next:=λbq _=>?_);dsimp only[List.cons_append,List.nil_append];refine go ?_;have SN:∀{xs:List ny},xs.map (·.1)=(List.range (2^(bu s fs day).length)).map (rd l o (bu s fs day))->∀x∈xs,∃m,m<2^(bu s fs day).length/\x.1=rd l o (bu s fs day) m:=λhX x hx=>by
  have:x.1∈_:=uF (f:=Prod.fst) hx;rw[show List.map Prod.fst _=_ from hX]at this;obtain⟨m,hm,e⟩:=gz.1 this;exact⟨m,wz.1 hm,e.symm⟩
 refine Zp (Z:=Nat) (Ct s fs day) (zI s.c.toNat b2 b3 bm) (λvs st=>st.2=false) ([],false) _ (λ_ _=>[]) rfl (λvs st x rest hs hX hn=>?_) (aeV (b:=bq) (s:=s) (v1:=v1) (v2:=v2) (v3:=v3) (v4:=v4) (vl:=vl) (vo:=vo) (vf:=vf) (l:=l) (o:=o) (fs:=fs) (day:=day) wh (by omega) hfl hll hol hx1 hx2 hx3 hx4 hx5 hx6 hx7) (by intro st x lo ob B w0;dsimp only[F9,Cs,List.zip_cons_cons,List.zip_nil_left,List.reverse_cons,List.reverse_nil,List.nil_append,List.cons_append];refine go ?_;have z0:Nat:=0;exact Jh z0 rfl) ?_ ?_ (λst x=>?_) (hk:=by
  show aL [pt b2 (.cells [.map (some bm)]),pt b3 (.cells [.int .i64 0]),jR (dm s.c.toNat) bm (dH [])] _ _;repeat (first|exact aL.nil|(apply aL.cons;(focus (repeat (first|exact ah.here|apply ah.there))))))
 ·by_cases hL:jv s (dz x.1 fs day)
  ·rw[Ga hL]at hn;cases hn
  ·rw[Cu hL]
 ·intro vs st x rest z lo L B w0 hs hX;obtain⟨ks,fl⟩:=st;dsimp only at hs;subst hs;obtain⟨m,hm,hxm⟩:=SN hX x (by simp);obtain⟨xl,vx⟩:=x;dsimp only at hxm;have sI:eD s xl fs day=0:=by rw[hxm,abC hol];exact h1
  have La:eZ s (dz xl fs day)=0:=by rw[hxm];exact J9 h1 hol m
  dsimp only[Cs,zI,List.cons_append,List.nil_append];refine go ?_;refine aG (Sy (s:=s) (v1:=v1) (v2:=v2) (v3:=v3) (v4:=v4) (vl:=vx) (vf:=vf) (l:=xl) (fs:=fs) (day:=day) hb1 hb2 hb3 hbf hx1 hx2 hx3 hx4) (next:=λy hy=>?_);obtain⟨vy,ey,Y⟩:=y;obtain⟨rfl,rfl⟩:=hy;dsimp only;rw[sI,K8 sI];refine go ?_;refine aG (ad2 (s:=s) (v1:=v1) (v2:=v2) (v3:=v3) (v4:=v4) (vl:=vy) (l:=dz xl fs day) h4 hb1 hb2 hb3 hx1 hx2 hx3 hx4) (next:=λy hy=>?_);obtain⟨vz,ez,Z⟩:=y;obtain⟨rfl,rfl⟩:=hy;dsimp only;by_cases hL:jv s (dz xl fs day)
  ·obtain⟨e1,e2⟩:=Qm La hL;rw[e1,e2,Ga (x:=(xl,vx)) hL];dsimp only[zI];refine go ?_;exact Ex () rfl trivial trivial
  obtain⟨e1,e2⟩:=Fu La hL;rw[e1,e2,Cu (x:=(xl,vx)) hL];have hck:=pY La;have qa:∀t∈dS s (dz xl fs day) s.p.toNat,t.length=s.c.toNat/\rA s.pz (iT t):=λt ht=>⟨kV ht,SK hck ht⟩
  dsimp only[zI];have F5:(dS s (dz xl fs day) s.p.toNat).length<=4096:=by
   apply Classical.byContradiction;intro hgt;exact hL ⟨s.p.toNat - 1,by omega,by rw[show s.p.toNat - 1+1=s.p.toNat by omega];omega⟩
  generalize hXg:dS s (dz xl fs day) s.p.toNat=X at qa F5⊢;refine go ?_;refine dQ (λk=>X.length - k) (λk:Nat=>[(65,.int .i64 (k:Int))]) (λk=>[jR (dm s.c.toNat) bm (dH (oK s.c.toNat s.pz ks (X.take k)))]) (λ_=>[]) (λk=>k<=X.length) 0 (dY _) (hk:=by
   show aL [jR (dm s.c.toNat) bm (dH ks)] _ _;repeat (first|exact aL.nil|(apply aL.cons;(focus (repeat (first|exact ah.here|apply ah.there)))))) (body:=?_)
  intro k hk;refine go ?_;refine aM rfl (λh3=>?_) (λh3=>?_)
  ·refine go ?_;refine eX (bC az) (k:=k) (next:=λ_ _ t (vt:Value) ht=>?_);obtain⟨htl,htp⟩:=qa t (dA ht);have hpl:=J5 s.pz t;refine go ?_;refine aG (ac2 (xs:=t) (by omega)) (next:=λvr _=>?_);refine go ?_;refine aG (aee (vp:=v4) (vl:=vr) (p:=s.pz) (l:=iT t) hb3 (by rw[J4];omega)) (next:=λy hy=>?_);obtain⟨ys,vp,ep⟩:=y;obtain⟨q1,q2⟩:=hy.1 htp;dsimp only at q1 q2;subst q1 q2;rw[show(iT t).map (jU s.pz (iT t))=ku s.pz t from rfl];dsimp only[Sb,List.cons_append,List.nil_append];refine go ?_;intro b12;refine(bV rfl rfl (ae3 (b:=b12) (n:=8) rfl)).h ?_;refine go ?_;refine aeY (b:=b12) (v:=vp) (xs:=ku s.pz t) (m:=8) (cs:=[.int .i64 0,.int .i64 0,.int .i64 0,.int .i64 0,.int .i64 0,.int .i64 0,.int .i64 0,.int .i64 0]) (by omega) (by omega) rfl ?_ (by simp) .here;have hcells:(ku s.pz t).map (Value.int .i64)++List.drop (ku s.pz t).length [.int .i64 0,.int .i64 0,.int .i64 0,.int .i64 0,.int .i64 0,.int .i64 0,.int .i64 0,.int .i64 0]=(iy s.c.toNat (rD s.c.toNat (ku s.pz t))).map (.int .i64):=by
    unfold iy;rw[SE (by omega),dM,hpl,htl];congr 1;rw[List.map_replicate];show List.drop s.c.toNat (List.replicate 8 (Value.int .i64 0))=_;rw[List.drop_replicate]
   rw[hcells];refine go ?_;refine(IY (b:=b12) (o:=0) (c:=(iy s.c.toNat (rD s.c.toNat (ku s.pz t))).map (.int .i64)) rfl rfl rfl .here (acZ (by rw[bI,mg hc8]))).h ?_;refine go ?_;refine ED (aN:=dm s.c.toNat) (b:=bm) (v:=.bool true) (aF:=dH (oK s.c.toNat s.pz ks (X.take k))) (aeX hc8) (rD s.c.toNat (ku s.pz t)) ?_ (ha:=rfl);rw[KI,<- aeZ,<- fG ht];refine go ?_;exact aY (k+1) (by omega) (by omega)
  have hke:k=X.length:=by omega
  subst hke;rw[iB];refine go ?_;exact Ex () rfl trivial trivial
 ·intro r xs hX;by_cases hL:∃x∈xs,jv s (dz x.1 fs day)
  ·obtain⟨ks',e⟩:=SH (ks:=[]) hL;rw[e];obtain⟨x,hx,hl⟩:=hL;obtain⟨m,hm,e2⟩:=SN hX x hx;have e3:=QK h1 hol (⟨m,hm,e2▸hl⟩:uj s l o fs day);dsimp only[zI,List.cons_append,List.nil_append];refine go ?_;exact rZ ⟨none,2,[]⟩ (hv:=rfl) (hp:=⟨e3.symm,λh=>by cases h⟩)
  ·have hno:∀x∈xs,¬jv s (dz x.1 fs day):=λx hx hl=>hL ⟨x,hx,hl⟩;rw[SG hno];have hall:=ae0 (s:=s) (l:=l) (o:=o) (fs:=fs) (day:=day) hX;have e3:=J8 (s:=s) (fs:=fs) (day:=day) h1 hol (λ⟨m,hm,hl⟩=>by
    have:rd l o (bu s fs day) m∈xs.map (·.1):=by rw[hX];exact uF (wz.2 hm)
    obtain⟨x,hx,e⟩:=gz.1 this;exact hno x hx (by rw[e];exact hl))
   dsimp only[zI,List.cons_append,List.nil_append];generalize zH s fs day [] xs=ks at hall⊢;refine go ?_;refine cu Jd (A:=jR (dm s.c.toNat) bm (dH ks)) (fs:=[vF (dm s.c.toNat) bm (dH ks)]) (h:=?_);exact rZ ⟨some bm,0,ks⟩ (hv:=rfl) (hp:=⟨e3.symm,λ_=>⟨⟨bm,rfl⟩,hall⟩⟩) (hF:=by
    show Sub [vF (dm s.c.toNat) bm (dH ks)] _;exact .cons (aS ..) .nil)
 ·by_cases hL:jv s (dz x.1 fs day)
  ·rw[Ga hL];trivial
  ·rw[Cu hL];trivial
