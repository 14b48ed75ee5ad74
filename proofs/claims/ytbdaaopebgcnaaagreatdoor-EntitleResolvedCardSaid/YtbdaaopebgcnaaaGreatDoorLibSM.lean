/-
  rulings.Results, whole; the slots of results.
-/
import Derived.Test.YtbdaaopebgcnaaaGreatDoorLibRM
set_option linter.all false
set_option maxRecDepth 10000
set_option maxHeartbeats 4000000
namespace Go.Proofs.YtbdaaopebgcnaaaGreatDoor
open Go.Ideal Rk En
theorem K4{l:List aA}{k j:Nat}{x:aA}{u:Value}(hx:l[k]? =some x)(hu:(bR.pat x ())[j]? =some u):(jg l)[k*6+j]? =some u:=by
 have hm:(l.map λx=>((x,()):aA×bR.Y))[k]? =some (x,()):=by rw[cK,hx];rfl
 exact xh (E:=bR) hm hu
theorem K5{l:List aA}{k:Nat}{x:aA}{r:Bool}(h:l[k]? =some x):(jg l).set (k*6+5) (.bool r)=jg (l.set k {x with r:=r}):=by
 have hm:(l.map λx=>((x,()):aA×bR.Y))[k]? =some (x,()):=by rw[cK,h];rfl
 have s1:=OQ (E:=bR) (j:=5) (v:=.bool r) (p':=({x with r:=r},())) hm rfl (by decide);have e1:(jg l).set (k*6+5) (.bool r)=_:=s1;rw[e1];unfold jg;rw[wD]
def Co(n:Nat):Option (Nat×Nat)->Value
 |none=>.slice none 0 0
 |some (b,f)=>.slice (some ⟨b,0,some f⟩) n n
def Cq(cs:List Value):Option (Nat×Nat)->List OA
 |none=>[]
 |some (b,_)=>[pt b (.cells cs)]
def ClP(l:List aA)(y:Option (Nat×Nat)):Prop:=(y=none->l=[])/\∀b f,y=some (b,f)->f=0\/f=bR.n
theorem Sr{v:Value}{l:List aA}(hl:l.length<=32):aT Tryz.prog (.func 44) [v] [] [] [ae bR v l] (Co l.length) (Cq (jg l)) (λ_=>[]) (ClP l):=by
 refine aV Sk aej λB w0=>?_;refine pR bR v (xs:=l) λaa hxy=>?_;have hlen:aa.length=l.length:=by rw[<- hxy,bI]
 refine aao (v:=v) (aa:=aa) bR (λe c ev=>?_) (λe i o f c ev=>?_) (λhne i o f c ev=>?_)
 ·subst e ev;have hx:l=[]:=by rw[<- hxy];rfl
  subst hx;refine go ?_;refine(bV rfl rfl (Zi (e:=61) (by kernel_rfl) rfl)).h ?_;refine go ?_;exact aj none (hv:=rfl) (hp:=⟨λ_=>rfl,λb f h=>by cases h⟩)
 ·subst ev;have hx:l=[]:=by rw[<- hxy,e];rfl
  subst hx;refine go ?_;refine(bV rfl rfl (EL (e:=61) (by kernel_rfl) rfl)).h ?_;refine go ?_;intro b;refine go ?_;refine Sg (b:=b) (v:=.slice (some ⟨i,o,some f⟩) 0 c) (l:=[]) (by simp) (λbs fs hfs=>?_) (by simp) .here;refine go ?_;exact aj (some (bs,fs)) (hv:=rfl) (hp:=⟨(λh=>by cases h),λb f h=>by cases h;exact hfs⟩)
 ·subst ev;refine go ?_;refine(bV rfl rfl (EL (e:=61) (by kernel_rfl) rfl)).h ?_;refine go ?_;intro b;refine go ?_;refine Sg (b:=b) (v:=.slice (some ⟨i,o,some f⟩) aa.length c) (l:=l) (by omega) (λbs fs hfs=>?_) (by simp) .here;refine go ?_;exact aj (some (bs,fs)) (hv:=rfl) (hp:=⟨(λh=>by cases h),λb f h=>by cases h;exact hfs⟩)
def rC(fs:List aR)(is:List Nat):List Bool:=is.foldl (λfl i=>fl.set (fs.getD i dF).p.toNat true) (List.replicate 8 false)
theorem Su(fs:List aR)(is:List Nat)(i:Nat):rC fs (is++[i])=(rC fs is).set (fs.getD i dF).p.toNat true:=by unfold rC;rw[List.foldl_append];rfl
theorem K6(fs:List aR)(is:List Nat):(rC fs is).length=8:=by
 unfold rC;have:∀(is:List Nat) (fl:List Bool),(is.foldl (λfl i=>fl.set (fs.getD i dF).p.toNat true) fl).length=fl.length:=by
  intro is;induction is with
  |nil=>intro fl;rfl
  |cons i is ih=>intro fl;rw[Cy,ih,List.length_set]
 rw[this,xY]
theorem Sv{fs:List aR}{q:Nat}(hq:q<8):∀(n:Nat) {is:List Nat},is.length=n->(rC fs is)[q]? =some (is.any λi=>decide ((fs.getD i dF).p.toNat=q))
 |0,is,h=>by
  rw[qc.1 h];show(List.replicate 8 false)[q]? =_;rw[List.getElem?_replicate,if_pos hq];rfl
 |n+1,is,h=>by
  have e:=List.dropLast_concat_getLast (l:=is) (by intro e;rw[e]at h;cases h);generalize is.getLast (by intro e;rw[e]at h;cases h)=i at e;have hl:is.dropLast.length=n:=by rw[List.length_dropLast,h];rfl
  have ih:=Sv (fs:=fs) hq n hl;generalize is.dropLast=d at e hl ih;subst e;rw[Su,List.any_append,List.any_cons,List.any_nil,Gf];by_cases hp:(fs.getD i dF).p.toNat=q
  ·rw[hp,List.getElem?_set_self (by rw[K6];exact hq),fK rfl,Bool.or_true]
  ·rw[List.getElem?_set_ne hp,ih,gq hp,Gf]
theorem aes{s:aJ}{fs:List aR}{day p:Int}(h:∀f∈fs,rf s f)(hp:0<=p)(wh:p<8):(rC fs (gT fs (-1) day fs.length))[p.toNat]? =some (fty fs day p):=by
 rw[Sv (by omega) _ rfl];congr 1;cases e:fty fs day p with
 |true=>
  obtain⟨f,hf,h2⟩:=wC.1 e;obtain⟨i,hi⟩:=oM hf;have hg:fs.getD i dF=f:=by rw[oh,hi];rfl
  have hd:=(h f hf).d0;simp only[fo,ww]at h2;refine wC.2 ⟨i,CF.2 ⟨wz.2 (dU.1 hi).1,?_⟩,?_⟩
  ·unfold oJ;rw[hg,fK h2.1,gq (by omega:¬f.d<= -1),fK h2.2.1];rfl
  ·rw[hg,h2.2.2];simp
 |false=>
  rw[List.any_eq_false];intro i hi h2;have hm:=CF.1 hi;have hlt:=wz.1 hm.1;have hx:fs[i]? =some (fs[i]'hlt):=bH _;have hg:fs.getD i dF=fs[i]'hlt:=by rw[oh,hx];rfl
  have hok:=h _ (dA hx);have hmm:=dA hx;generalize fs[i]'hlt=f at hg hok hmm;have h3:=hm.2;unfold oJ at h3;rw[hg]at h3 h2;simp only[fo,ww]at h3 h2;have h0:=hok.p0;have:fty fs day p=true:=wC.2 ⟨f,hmm,by simp only[fo,ww];exact⟨h3.1,h3.2.2,by omega⟩⟩;rw[e]at this;cases this
def kw(l:List aA)(fs:List aR)(day:Int)(k:Nat):List aA:=dz (l.take k) fs day++l.drop k
theorem aet{l:List aA}{fs:List aR}{day:Int}:kw l fs day 0=l:=by simp[kw,dz]
theorem aeu{l:List aA}{fs:List aR}{day:Int}:kw l fs day l.length=dz l fs day:=by
 unfold kw;rw[iB,uG (aC _),fJ]
theorem aev{l:List aA}{fs:List aR}{day:Int}{k:Nat}:(kw l fs day k).length=l.length:=by
 unfold kw;rw[dK,zx,fB,iY];omega
theorem aew{l:List aA}{fs:List aR}{day:Int}{k:Nat}{x:aA}(h:l[k]? =some x):(kw l fs day k)[k]? =some x:=by
 have hk:=(dU.1 h).1;have hl:(dz (l.take k) fs day).length=k:=by rw[zx,fB];omega
 unfold kw;rw[lN (by omega),hl,uE,iV,rE,h]
theorem Sw{l:List aA}{fs:List aR}{day:Int}{k:Nat}{x:aA}{r:Bool}(h:l[k]? =some x)(hr:r=(x.r&&!fty fs day x.p)):(kw l fs day k).set k {x with r:=r}=kw l fs day (k+1):=by
 have hk:=(dU.1 h).1;have hl:(dz (l.take k) fs day).length=k:=by rw[zx,fB];omega
 unfold kw;rw[List.set_append_right _ _ (by omega),hl,uE,fG h,zV hk];unfold dz;rw[dM,gY,hr];rfl
structure K7 where
 v:Value
 e:Int
 X:List aA
abbrev aex(y:K7):Value:=.tuple ⟨[y.v,.int .i64 y.e]⟩
abbrev aey(y:K7):List aB:=[ae bR y.v y.X]
def RsP(s:aJ)(l:List aA)(fs:List aR)(day:Int)(y:K7):Prop:=y.e=eD s l fs day/\y.X=BN s l fs day
theorem F8{s:aJ}{l:List aA}{fs:List aR}{day:Int}(h:eD s l fs day≠0):BN s l fs day=[]:=by unfold BN;rw[if_neg h]
theorem K8{s:aJ}{l:List aA}{fs:List aR}{day:Int}(h:eD s l fs day=0):BN s l fs day=dz l fs day:=by unfold BN;rw[if_pos h]
theorem Sy{s:aJ}{v1 v2 v3 v4 vl vf:Value}{l:List aA}{fs:List aR}{day:Int}(hb1:s.lv.length<9223372036854775808)(hb2:s.cl.length<9223372036854775808)(hb3:s.pz.length<9223372036854775808)(hbf:fs.length<9223372036854775808)(hx1:cellsOf v1=some [v1])(hx2:cellsOf v2=some [v2])(hx3:cellsOf v3=some [v3])(hx4:cellsOf v4=some [v4]):
 aT Tryz.prog (.func 16) [.agg ⟨kY s v1 v2 v3 v4⟩,vl,vf,.int .i64 day] [] [] [mX 0 nQ,ae az v1 s.lv,ae az v2 s.cl,ae iw v3 s.pg,ae az v4 s.pz,ae bR vl l,ae eF vf fs] aex (λ_=>[]) aey (RsP s l fs day):=by
 refine Oq _ (bB 16) λB w0=>?_;refine eU (E:=eF) (v:=vf) (xs:=fs) (by simp) λav cv ev=>?_;subst ev;refine go ?_;intro b4 b6;refine cu (fT (b:=b4)) (h:=?_);refine cu (fT (b:=b6)) (h:=?_);refine go ?_;refine aG (Rj (s:=s) (l:=l) hb1 hb2 hb3 hx1 hx2 hx3 hx4) (next:=λy hy=>?_);subst hy;refine go ?_;refine aM rfl (λh1=>?_) (λh1=>?_)
 ·have e:=QC (fs:=fs) (day:=day) h1;refine go ?_;refine bX (ae bR (.slice none 0 0) ([]:List aA)) (λw _=>wm w) ?_;exact rZ ⟨.slice none 0 0,eZ s l,[]⟩ (hv:=rfl) (hp:=⟨e.symm,(F8 (by rw[e];exact h1)).symm⟩)
 have h1:eZ s l=0:=rJ.1 h1;have h:=pY h1;have hll:=h.len;refine go ?_;refine aM rfl (λh2=>?_) (λh2=>?_)
 ·have e:=QD (fs:=fs) (day:=day) h1 (by omega);refine go ?_;refine bX (ae bR (.slice none 0 0) ([]:List aA)) (λw _=>wm w) ?_;exact rZ ⟨.slice none 0 0,2,[]⟩ (hv:=rfl) (hp:=⟨e.symm,(F8 (by omega)).symm⟩)
 refine go ?_;refine aG (Sm (fs:=fs) (p:=xL s) hbf (λf _=>ael (b:=b4) (v1:=v1) (v2:=v2) (v3:=v3) (v4:=v4))) (next:=λb hb=>?_);refine go ?_;refine jO rfl (λh3=>?_) (λh3=>?_)
 ·have e:=sF (fs:=fs) (day:=day) h1 (by omega) (Sq.1 (hb▸h3));refine go ?_;refine bX (ae bR (.slice none 0 0) ([]:List aA)) (λw _=>wm w) ?_;exact rZ ⟨.slice none 0 0,540,[]⟩ (hv:=rfl) (hp:=⟨e.symm,(F8 (by omega)).symm⟩)
 have h3:∀f∈fs,rf s f:=Classical.not_not.1 λk=>by rw[hb,Sq.2 k]at h3;cases h3
 refine go ?_;refine aG (Sn (d:=day)) (next:=λ_ _=>?_);refine go ?_;refine NT rfl (λh4=>?_) (λh4=>?_)
 ·have e:=JY (fs:=fs) (day:=day) h1 (by omega) h3 h4;refine go ?_;refine bX (ae bR (.slice none 0 0) ([]:List aA)) (λw _=>wm w) ?_;exact rZ ⟨.slice none 0 0,1,[]⟩ (hv:=rfl) (hp:=⟨e.symm,(F8 (by omega)).symm⟩)
 have hR:JX s l fs day:=⟨h1,by omega,h3,h4.1,h4.2⟩
 have hr0:=JZ hR;refine go ?_;intro b12 b13;refine cu (fT (b:=b13)) (h:=?_);refine go ?_;refine aG (aeo (vf:=.slice av fs.length cv) (fs:=fs) (a:= -1) (b:=day)) (next:=λy _=>?_);obtain⟨c1,c2,c3⟩:=y;dsimp only[List.cons_append,List.nil_append];refine go ?_;have wh:=h.sh.p8;refine OP (Z:=Nat) (λ(is:List Nat) (i:Nat)=>(is++[i],Out.normal)) (λis=>[pt b12 (.cells ((rC fs is).map .bool))]) (λvs is=>is=vs) [] _ (λ_ _=>[]) rfl (λvs s x rest hs hX _=>by rw[hs]) (aep (b1:=c1) (b2:=c2) (b3:=c3) (vf:=.slice av fs.length cv) (fs:=fs) (a:= -1) (b:=day) (by omega)) (by intro s' x lo o B w0;dsimp only[List.zip_cons_cons,List.zip_nil_left,List.reverse_cons,List.reverse_nil,List.nil_append,List.cons_append];refine go ?_;have z0:Nat:=0;exact Jh z0 rfl) ?_ ?_ (λ_ _=>trivial) (hk:=by repeat (first|exact aL.nil|(apply aL.cons;(focus (repeat (first|exact ah.here|apply ah.there))))))
 ·intro vs is i rest z lo L B w0 hs hX;subst hs;have him:i∈gT fs (-1) day fs.length:=by rw[<- hX];simp
  have hil:=wz.1 (CF.1 him).1;have hx:fs[i]? =some (fs[i]'hil):=bH _;have hg:fs.getD i dF=fs[i]'hil:=by rw[oh,hx];rfl
  have hok:=h3 _ (dA hx);generalize fs[i]'hil=f at hx hg hok;have hp0:=hok.p0;have hp1:=hok.p1;dsimp only[List.cons_append,List.nil_append];refine go ?_;refine aG (aem (b1:=b12) (b2:=b6) (vf:=.slice av fs.length cv) (fs:=fs) (fl:=rC fs is) hx hp0 (by omega) (K6 ..) (by omega)) (next:=λ_ _=>?_);rw[<- hg,<- Su];refine go ?_;exact Ex () rfl trivial trivial
 ·intro r xs hX;have hrun:∀(is zs:List Nat),gQ (λ(is:List Nat) (i:Nat)=>(is++[i],Out.normal)) is zs=(is++zs,.normal):=by
   intro is zs;induction zs generalizing is with
   |nil=>simp[gQ]
   |cons z zs ih=>rw[gQ];simp only[ih];simp
  rw[hrun,dw,hX];dsimp only[List.cons_append,List.nil_append];refine go ?_;refine aG (Sr (v:=vl) (l:=l) hll) (next:=λy hy=>?_);obtain⟨hy1,hy2⟩:=hy;have hmk:∀x∈l,(rC fs (gT fs (-1) day fs.length))[x.p.toNat]? =some (fty fs day x.p):=λx hx=>by
   have ha:=(h.rs x hx).p0;have hb:=(h.rs x hx).p1;exact aes h3 ha (by omega)
  have hml:=K6 fs (gT fs (-1) day fs.length);generalize rC fs (gT fs (-1) day fs.length)=mk at hmk hml;cases y with
  |none=>
   have hl0:=hy1 rfl;subst hl0;dsimp only[Co,Cq,List.nil_append];refine go ?_;refine dQ (λ_:Unit=>0) (λ_=>[]) (λ_=>[]) (λ_=>[]) (λ_=>True) () trivial (body:=?_);intro _ _;refine go ?_;refine bX (ae bR (.slice none 0 0) ([]:List aA)) (λw _=>wm w) ?_;exact rZ ⟨.slice none 0 0,0,[]⟩ (hv:=rfl) (hp:=⟨hr0.symm,(K8 hr0).symm⟩)
  |some bf=>
   obtain⟨bs,f⟩:=bf;have hf:=hy2 bs f rfl;dsimp only[Co,Cq,List.cons_append,List.nil_append];refine go ?_;refine dQ (λk=>l.length - k) (λk:Nat=>[(44,.int .i64 (k:Int))]) (λk=>[pt bs (.cells (jg (kw l fs day k)))]) (λ_=>[]) (λk=>k<=l.length) 0 (dY _) (hk:=by
    rw[aet];repeat (first|exact aL.nil|(apply aL.cons;(focus (repeat (first|exact ah.here|apply ah.there)))))) (body:=?_)
   intro k hk;refine go ?_;refine aM rfl (λh5=>?_) (λh5=>?_)
   ·have hx:l[k]? =some (l[k]'(by omega)):=bH _;generalize l[k]'(by omega)=x at hx;have uy:=aew (fs:=fs) (day:=day) hx;have hxm:=dA hx;have hok:=h.rs x hxm;have hp0:=hok.p0;have hp1:=hok.p1;have hfl:=Sd (kw l fs day k);rw[aev]at hfl;obtain⟨n,hn⟩:=wB hp0;refine go ?_;refine mV (o:=0+k*6+5) (cs:=jg (kw l fs day k)) (.bool x.r) (by rw[dB];exact K4 uy rfl) ?_;refine go ?_;cases sI:x.r with
    |false=>
     refine go ?_;refine qO (o:=0+k*6+5) (cs:=jg (kw l fs day k)) (cs':=jg (kw l fs day (k+1))) (v:=.bool false) (by rw[dB,K5 uy,Sw hx (by rw[sI];rfl)]) (by omega) ?_;refine go ?_;exact aY (k+1) (by omega) (by omega)
    |true=>
     refine go ?_;refine mV (o:=0+k*6+1) (cs:=jg (kw l fs day k)) (.int .i64 x.p) (by rw[dB];exact K4 uy rfl) ?_;refine go ?_;refine mV (o:=0+x.p.toNat*1) (cs:=mk.map .bool) (.bool (fty fs day x.p)) (by rw[dB,jB,cK,hmk x hxm];rfl) ?_;refine go ?_;refine qO (o:=0+k*6+5) (cs:=jg (kw l fs day k)) (cs':=jg (kw l fs day (k+1))) (v:=.bool (!fty fs day x.p)) (by rw[dB,K5 uy,Sw hx (by rw[sI];rfl)]) (by omega) ?_;refine go ?_;exact aY (k+1) (by omega) (by omega)
   have hkl:k=l.length:=by omega
   subst hkl;rw[aeu];refine Sj (l:=dz l fs day) (b:=bs) (f:=f) hf (hk:=.here) (h:=?_);rw[zx];refine go ?_;exact rZ ⟨.slice (some ⟨bs,0,some f⟩) l.length l.length,0,dz l fs day⟩ (hv:=rfl) (hp:=⟨hr0.symm,(K8 hr0).symm⟩)
