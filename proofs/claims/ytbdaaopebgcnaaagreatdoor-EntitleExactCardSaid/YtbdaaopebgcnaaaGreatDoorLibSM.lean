/-
  rulings.Results, whole; the slots of results.
-/
import Derived.Test.YtbdaaopebgcnaaaGreatDoorLibRM
set_option linter.all false
set_option maxRecDepth 10000
set_option maxHeartbeats 4000000
namespace Go.Proofs.YtbdaaopebgcnaaaGreatDoor
open Go.Ideal Rk En
theorem pX{l:List ak}{k j:Nat}{x:ak}{u:Value}(hx:l[k]? =some x)(hu:(aZ.pat x ())[j]? =some u):(dM l)[k*6+j]? =some u:=by
 have hm:(l.map λx=>((x,()):ak×aZ.Y))[k]? =some (x,()):=by rw[bU,hx];rfl
 exact yP (E:=aZ) hm hu
theorem Ja{l:List ak}{k:Nat}{x:ak}{r:Bool}(h:l[k]? =some x):(dM l).set (k*6+5) (.bool r)=dM (l.set k {x with r:=r}):=by
 have hm:(l.map λx=>((x,()):ak×aZ.Y))[k]? =some (x,()):=by rw[bU,h];rfl
 have s1:=GZ (E:=aZ) (j:=5) (v:=.bool r) (p':=({x with r:=r},())) hm rfl (by decide);have e1:(dM l).set (k*6+5) (.bool r)=_:=s1;rw[e1];unfold dM;rw[lS]
def Em(n:Nat):Option (Nat×Nat)->Value
 |none=>.slice none 0 0
 |some (b,f)=>.slice (some ⟨b,0,some f⟩) n n
def Eo(cs:List Value):Option (Nat×Nat)->List OA
 |none=>[]
 |some (b,_)=>[pt b (.cells cs)]
def ClP(l:List ak)(y:Option (Nat×Nat)):Prop:=(y=none->l=[])/\∀b f,y=some (b,f)->f=0\/f=aZ.n
theorem VP{v:Value}{l:List ak}(hl:l.length<=32):aX Tryz.prog (.func 44) [v] [] [] [ae aZ v l] (Em l.length) (Eo (dM l)) (λ_=>[]) (ClP l):=by
 refine aT VK ag1 λB w0=>?_;refine rJ aZ v (xs:=l) λaa hxy=>?_;have hlen:aa.length=l.length:=by rw[<- hxy,bI]
 refine ada (v:=v) (aa:=aa) aZ (λe c ev=>?_) (λe i o f c ev=>?_) (λhne i o f c ev=>?_)
 ·subst e ev;have hx:l=[]:=by rw[<- hxy];rfl
  subst hx;refine go ?_;refine(bC rfl rfl (ab4 (e:=61) (by kernel_rfl) rfl)).h ?_;refine go ?_;exact aj none (hv:=rfl) (hp:=⟨λ_=>rfl,λb f h=>by cases h⟩)
 ·subst ev;have hx:l=[]:=by rw[<- hxy,e];rfl
  subst hx;refine go ?_;refine(bC rfl rfl (G6 (e:=61) (by kernel_rfl) rfl)).h ?_;refine go ?_;intro b;refine go ?_;refine I7 (b:=b) (v:=.slice (some ⟨i,o,some f⟩) 0 c) (l:=[]) (by simp) (λbs fs hfs=>?_) (by simp) .here;refine go ?_;exact aj (some (bs,fs)) (hv:=rfl) (hp:=⟨(λh=>by cases h),λb f h=>by cases h;exact hfs⟩)
 ·subst ev;refine go ?_;refine(bC rfl rfl (G6 (e:=61) (by kernel_rfl) rfl)).h ?_;refine go ?_;intro b;refine go ?_;refine I7 (b:=b) (v:=.slice (some ⟨i,o,some f⟩) aa.length c) (l:=l) (by omega) (λbs fs hfs=>?_) (by simp) .here;refine go ?_;exact aj (some (bs,fs)) (hv:=rfl) (hp:=⟨(λh=>by cases h),λb f h=>by cases h;exact hfs⟩)
def uf(fs:List aU)(is:List Nat):List Bool:=is.foldl (λfl i=>fl.set (fs.getD i dF).p.toNat true) (List.replicate 8 false)
theorem VQ(fs:List aU)(is:List Nat)(i:Nat):uf fs (is++[i])=(uf fs is).set (fs.getD i dF).p.toNat true:=by unfold uf;rw[List.foldl_append];rfl
theorem NM(fs:List aU)(is:List Nat):(uf fs is).length=8:=by
 unfold uf;have:∀(is:List Nat) (fl:List Bool),(is.foldl (λfl i=>fl.set (fs.getD i dF).p.toNat true) fl).length=fl.length:=by
  intro is;induction is with
  |nil=>intro fl;rfl
  |cons i is ih=>intro fl;rw[EE,ih,EO]
 rw[this,nP]
theorem VS{fs:List aU}{q:Nat}(hq:q<8):∀(n:Nat) {is:List Nat},is.length=n->(uf fs is)[q]? =some (is.any λi=>decide ((fs.getD i dF).p.toNat=q))
 |0,is,h=>by
  rw[qM.1 h];show(List.replicate 8 false)[q]? =_;rw[List.getElem?_replicate,if_pos hq];rfl
 |n+1,is,h=>by
  have e:=List.dropLast_concat_getLast (l:=is) (by intro e;rw[e]at h;cases h);generalize is.getLast (by intro e;rw[e]at h;cases h)=i at e;have hl:is.dropLast.length=n:=by rw[List.length_dropLast,h];rfl
  have ih:=VS (fs:=fs) hq n hl;generalize is.dropLast=d at e hl ih;subst e;rw[VQ,zB,Jv,List.any_nil,oP];by_cases hp:(fs.getD i dF).p.toNat=q
  ·rw[hp,Jw (by rw[NM];exact hq),eP rfl,Bool.or_true]
  ·rw[List.getElem?_set_ne hp,ih,fB hp,oP]
theorem aha{s:aK}{fs:List aU}{day p:Int}(h:∀f∈fs,tO s f)(hp:0<=p)(oJ:p<8):(uf fs (iM fs (-1) day fs.length))[p.toNat]? =some (fty fs day p):=by
 rw[VS (by omega) _ rfl];congr 1;cases e:fty fs day p with
 |true=>
  obtain⟨f,hf,h2⟩:=sw.1 e;obtain⟨i,hi⟩:=qI hf;have hg:fs.getD i dF=f:=by rw[iA,hi];rfl
  have hd:=(h f hf).d0;simp only[fD,wC]at h2;refine sw.2 ⟨i,EJ.2 ⟨yj.2 (dU.1 hi).1,?_⟩,?_⟩
  ·unfold qF;rw[hg,eP h2.1,fB (by omega:¬f.d<= -1),eP h2.2.1];rfl
  ·rw[hg,h2.2.2];simp
 |false=>
  rw[List.any_eq_false];intro i hi h2;have hm:=EJ.1 hi;have hlt:=yj.1 hm.1;have hx:fs[i]? =some (fs[i]'hlt):=bB _;have hg:fs.getD i dF=fs[i]'hlt:=by rw[iA,hx];rfl
  have hok:=h _ (dA hx);have hmm:=dA hx;generalize fs[i]'hlt=f at hg hok hmm;have h3:=hm.2;unfold qF at h3;rw[hg]at h3 h2;simp only[fD,wC]at h3 h2;have h0:=hok.p0;have:fty fs day p=true:=sw.2 ⟨f,hmm,by simp only[fD,wC];exact⟨h3.1,h3.2.2,by omega⟩⟩;rw[e]at this;cases this
def lH(l:List ak)(fs:List aU)(day:Int)(k:Nat):List ak:=bO (l.take k) fs day++l.drop k
theorem ahb{l:List ak}{fs:List aU}{day:Int}:lH l fs day 0=l:=by simp[lH,bO]
theorem ahc{l:List ak}{fs:List aU}{day:Int}:lH l fs day l.length=bO l fs day:=by
 unfold lH;rw[gV,uV (aG _),fU]
theorem ahd{l:List ak}{fs:List aU}{day:Int}{k:Nat}:(lH l fs day k).length=l.length:=by
 unfold lH;rw[dN,xL,cB,iZ];omega
theorem ahe{l:List ak}{fs:List aU}{day:Int}{k:Nat}{x:ak}(h:l[k]? =some x):(lH l fs day k)[k]? =some x:=by
 have hk:=(dU.1 h).1;have hl:(bO (l.take k) fs day).length=k:=by rw[xL,cB];omega
 unfold lH;rw[lM (by omega),hl,qc,jf,jG,h]
theorem VT{l:List ak}{fs:List aU}{day:Int}{k:Nat}{x:ak}{r:Bool}(h:l[k]? =some x)(hr:r=(x.r&&!fty fs day x.p)):(lH l fs day k).set k {x with r:=r}=lH l fs day (k+1):=by
 have hk:=(dU.1 h).1;have hl:(bO (l.take k) fs day).length=k:=by rw[xL,cB];omega
 unfold lH;rw[EK _ _ (by omega),hl,qc,eD h,zz hk];unfold bO;rw[eB,ig,hr];rfl
structure NN where
 v:Value
 e:Int
 X:List ak
abbrev ahf(y:NN):Value:=.tuple ⟨[y.v,.int .i64 y.e]⟩
abbrev ahg(y:NN):List aD:=[ae aZ y.v y.X]
def RsP(s:aK)(l:List ak)(fs:List aU)(day:Int)(y:NN):Prop:=y.e=eG s l fs day/\y.X=DL s l fs day
theorem Jb{s:aK}{l:List ak}{fs:List aU}{day:Int}(h:eG s l fs day≠0):DL s l fs day=[]:=by unfold DL;rw[if_neg h]
theorem Ep{s:aK}{l:List ak}{fs:List aU}{day:Int}(h:eG s l fs day=0):DL s l fs day=bO l fs day:=by unfold DL;rw[if_pos h]
theorem Jc{s:aK}{v1 v2 v3 v4 vl vf:Value}{l:List ak}{fs:List aU}{day:Int}(hb1:s.lv.length<9223372036854775808)(hb2:s.cl.length<9223372036854775808)(hb3:s.pz.length<9223372036854775808)(hbf:fs.length<9223372036854775808)(hx1:cellsOf v1=some [v1])(hx2:cellsOf v2=some [v2])(hx3:cellsOf v3=some [v3])(hx4:cellsOf v4=some [v4]):
 aX Tryz.prog (.func 16) [.agg ⟨jD s v1 v2 v3 v4⟩,vl,vf,.int .i64 day] [] [] [l6 0 mU,ae ah v1 s.lv,ae ah v2 s.cl,ae fP v3 s.pg,ae ah v4 s.pz,ae aZ vl l,ae dS vf fs] ahf (λ_=>[]) ahg (RsP s l fs day):=by
 refine Re _ (bz 16) λB w0=>?_;refine eY (E:=dS) (v:=vf) (xs:=fs) (by simp) λav cv ev=>?_;subst ev;refine go ?_;intro b4 b6;refine bP (fQ (b:=b4)) (h:=?_);refine bP (fQ (b:=b6)) (h:=?_);refine go ?_;refine aB (Ng (s:=s) (l:=l) hb1 hb2 hb3 hx1 hx2 hx3 hx4) (next:=λy hy=>?_);subst hy;refine go ?_;refine aC rfl (λh1=>?_) (λh1=>?_)
 ·have e:=TJ (fs:=fs) (day:=day) h1;refine go ?_;refine bJ (ae aZ (.slice none 0 0) ([]:List ak)) (λw _=>x9 w) ?_;exact uD ⟨.slice none 0 0,dL s l,[]⟩ (hv:=rfl) (hp:=⟨e.symm,(Jb (by rw[e];exact h1)).symm⟩)
 have h1:dL s l=0:=qd.1 h1;have h:=l7 h1;have hll:=h.len;refine go ?_;refine aC rfl (λh2=>?_) (λh2=>?_)
 ·have e:=TK (fs:=fs) (day:=day) h1 (by omega);refine go ?_;refine bJ (ae aZ (.slice none 0 0) ([]:List ak)) (λw _=>x9 w) ?_;exact uD ⟨.slice none 0 0,2,[]⟩ (hv:=rfl) (hp:=⟨e.symm,(Jb (by omega)).symm⟩)
 refine go ?_;refine aB (VM (fs:=fs) (p:=zk s) hbf (λf _=>ag3 (b:=b4) (v1:=v1) (v2:=v2) (v3:=v3) (v4:=v4))) (next:=λb hb=>?_);refine go ?_;refine iW rfl (λh3=>?_) (λh3=>?_)
 ·have e:=uL (fs:=fs) (day:=day) h1 (by omega) (VO.1 (hb▸h3));refine go ?_;refine bJ (ae aZ (.slice none 0 0) ([]:List ak)) (λw _=>x9 w) ?_;exact uD ⟨.slice none 0 0,540,[]⟩ (hv:=rfl) (hp:=⟨e.symm,(Jb (by omega)).symm⟩)
 have h3:∀f∈fs,tO s f:=Classical.not_not.1 λk=>by rw[hb,VO.2 k]at h3;cases h3
 refine go ?_;refine aB (VN (d:=day)) (next:=λ_ _=>?_);refine go ?_;refine QR rfl (λh4=>?_) (λh4=>?_)
 ·have e:=MO (fs:=fs) (day:=day) h1 (by omega) h3 h4;refine go ?_;refine bJ (ae aZ (.slice none 0 0) ([]:List ak)) (λw _=>x9 w) ?_;exact uD ⟨.slice none 0 0,1,[]⟩ (hv:=rfl) (hp:=⟨e.symm,(Jb (by omega)).symm⟩)
 have hR:MN s l fs day:=⟨h1,by omega,h3,h4.1,h4.2⟩
 have hr0:=Ig hR;refine go ?_;intro b12 b13;refine bP (fQ (b:=b13)) (h:=?_);refine go ?_;refine aB (ag6 (vf:=.slice av fs.length cv) (fs:=fs) (a:= -1) (b:=day)) (next:=λy _=>?_);obtain⟨c1,c2,c3⟩:=y;dsimp only[List.cons_append,List.nil_append];refine go ?_;have oJ:=h.sh.p8;refine Rz (Z:=Nat) (λ(is:List Nat) (i:Nat)=>(is++[i],Out.normal)) (λis=>[pt b12 (.cells ((uf fs is).map .bool))]) (λvs is=>is=vs) [] _ (λ_ _=>[]) rfl (λvs s x rest hs hX _=>by rw[hs]) (ag7 (b1:=c1) (b2:=c2) (b3:=c3) (vf:=.slice av fs.length cv) (fs:=fs) (a:= -1) (b:=day) (by omega)) (by intro s' x lo o B w0;dsimp only[List.zip_cons_cons,List.zip_nil_left,List.reverse_cons,List.reverse_nil,List.nil_append,List.cons_append];refine go ?_;have z0:Nat:=0;exact LJ z0 rfl) ?_ ?_ (λ_ _=>trivial) (hk:=by repeat (first|exact aI.nil|(apply aI.cons;(focus (repeat (first|exact ai.here|apply ai.there))))))
 ·intro vs is i rest z lo L B w0 hs hX;subst hs;have him:i∈iM fs (-1) day fs.length:=by rw[<- hX];simp
  have hil:=yj.1 (EJ.1 him).1;have hx:fs[i]? =some (fs[i]'hil):=bB _;have hg:fs.getD i dF=fs[i]'hil:=by rw[iA,hx];rfl
  have hok:=h3 _ (dA hx);generalize fs[i]'hil=f at hx hg hok;have hp0:=hok.p0;have hp1:=hok.p1;dsimp only[List.cons_append,List.nil_append];refine go ?_;refine aB (ag4 (b1:=b12) (b2:=b6) (vf:=.slice av fs.length cv) (fs:=fs) (fl:=uf fs is) hx hp0 (by omega) (NM ..) (by omega)) (next:=λ_ _=>?_);rw[<- hg,<- VQ];refine go ?_;exact GH () rfl trivial trivial
 ·intro r xs hX;have hrun:∀(is zs:List Nat),iL (λ(is:List Nat) (i:Nat)=>(is++[i],Out.normal)) is zs=(is++zs,.normal):=by
   intro is zs;induction zs generalizing is with
   |nil=>simp[iL]
   |cons z zs ih=>rw[iL];simp only[ih];simp
  rw[hrun,dI,hX];dsimp only[List.cons_append,List.nil_append];refine go ?_;refine aB (VP (v:=vl) (l:=l) hll) (next:=λy hy=>?_);obtain⟨hy1,hy2⟩:=hy;have hmk:∀x∈l,(uf fs (iM fs (-1) day fs.length))[x.p.toNat]? =some (fty fs day x.p):=λx hx=>by
   have ha:=(h.rs x hx).p0;have hb:=(h.rs x hx).p1;exact aha h3 ha (by omega)
  have hml:=NM fs (iM fs (-1) day fs.length);generalize uf fs (iM fs (-1) day fs.length)=mk at hmk hml;cases y with
  |none=>
   have hl0:=hy1 rfl;subst hl0;dsimp only[Em,Eo,List.nil_append];refine go ?_;refine bR (λ_:Unit=>0) (λ_=>[]) (λ_=>[]) (λ_=>[]) (λ_=>True) () trivial (body:=?_);intro _ _;refine go ?_;refine bJ (ae aZ (.slice none 0 0) ([]:List ak)) (λw _=>x9 w) ?_;exact uD ⟨.slice none 0 0,0,[]⟩ (hv:=rfl) (hp:=⟨hr0.symm,(Ep hr0).symm⟩)
  |some bf=>
   obtain⟨bs,f⟩:=bf;have hf:=hy2 bs f rfl;dsimp only[Em,Eo,List.cons_append,List.nil_append];refine go ?_;refine bR (λk=>l.length - k) (λk:Nat=>[(44,.int .i64 (k:Int))]) (λk=>[pt bs (.cells (dM (lH l fs day k)))]) (λ_=>[]) (λk=>k<=l.length) 0 (cu _) (hk:=by
    rw[ahb];repeat (first|exact aI.nil|(apply aI.cons;(focus (repeat (first|exact ai.here|apply ai.there)))))) (body:=?_)
   intro k hk;refine go ?_;refine aC rfl (λh5=>?_) (λh5=>?_)
   ·have hx:l[k]? =some (l[k]'(by omega)):=bB _;generalize l[k]'(by omega)=x at hx;have mq:=ahe (fs:=fs) (day:=day) hx;have hxm:=dA hx;have hok:=h.rs x hxm;have hp0:=hok.p0;have hp1:=hok.p1;have hfl:=Bu (lH l fs day k);rw[ahd]at hfl;obtain⟨n,hn⟩:=wE hp0;refine go ?_;refine gp (o:=0+k*6+5) (cs:=dM (lH l fs day k)) (.bool x.r) (by rw[bG];exact pX mq rfl) ?_;refine go ?_;cases pV:x.r with
    |false=>
     refine go ?_;refine jk (o:=0+k*6+5) (cs:=dM (lH l fs day k)) (cs':=dM (lH l fs day (k+1))) (v:=.bool false) (by rw[bG,Ja mq,VT hx (by rw[pV];rfl)]) (by omega) ?_;refine go ?_;exact aL (k+1) (by omega) (by omega)
    |true=>
     refine go ?_;refine gp (o:=0+k*6+1) (cs:=dM (lH l fs day k)) (.int .i64 x.p) (by rw[bG];exact pX mq rfl) ?_;refine go ?_;refine gp (o:=0+x.p.toNat*1) (cs:=mk.map .bool) (.bool (fty fs day x.p)) (by rw[bG,fV,bU,hmk x hxm];rfl) ?_;refine go ?_;refine jk (o:=0+k*6+5) (cs:=dM (lH l fs day k)) (cs':=dM (lH l fs day (k+1))) (v:=.bool (!fty fs day x.p)) (by rw[bG,Ja mq,VT hx (by rw[pV];rfl)]) (by omega) ?_;refine go ?_;exact aL (k+1) (by omega) (by omega)
   have hkl:k=l.length:=by omega
   subst hkl;rw[ahc];refine I8 (l:=bO l fs day) (b:=bs) (f:=f) hf (hk:=.here) (h:=?_);rw[xL];refine go ?_;exact uD ⟨.slice (some ⟨bs,0,some f⟩) l.length l.length,0,bO l fs day⟩ (hv:=rfl) (hp:=⟨hr0.symm,(Ep hr0).symm⟩)
