/-
  Part LibACX.
-/
import Derived.Test.YtoilpafpgndilaaGreatLibLX
import Derived.Test.YtoilpafpgndilaaGreatLibMX
import Derived.Test.YtoilpafpgndilaaGreatLibNX
import Derived.Test.YtoilpafpgndilaaGreatLibABX
set_option linter.all false
set_option maxRecDepth 10000
set_option maxHeartbeats 4000000
namespace Go.Proofs.YtoilpafpgndilaaGreat
open Go.Ideal Kd Canon
def um(cl:List Int)(n:Nat):Prop:=∀i:Nat,i<n->0<=aB cl (i:Int)/\aB cl (i:Int)<=(i:Int)/\aB cl (aB cl (i:Int))=aB cl (i:Int)
theorem um.step{cl:List Int}{n:Nat}(h:um cl n){x:Int}(hx:cl[n]? =some x)(h1:0<=x)(h2:x<=(n:Int))(h3:aB cl x=x):um cl (n+1):=λi hi=>by
 by_cases e:i=n
 ·subst e;rw[ji hx];exact⟨h1,h2,h3⟩
 ·exact h i (by omega)
theorem um.not{m:Nat}{cl:List Int}{n:Nat}{x:Int}(hx:cl[n]? =some x)(h:¬(0<=x/\x<=(n:Int)/\aB cl x=x))(b:Bool)(hb:b=false):b=true↔vw m cl:=by
 subst hb;refine⟨(λe=>by cases e),λq=>absurd ?_ h⟩;have hl:=(bq.1 hx).1;have:=q.NN n (by rw[<- q.len];exact hl)
 rwa [ji hx]at this
theorem ai3{v:Value}{xs:List Int}{n:Nat}(hl:xs.length<9223372036854775808):bA Tryz.prog (.func 38) [v,.int .i64 (n:Int)] [] [] [ai ae v xs] (λb:Bool=>.bool b) (λ_=>[]) (λ_=>[]) (λb=>b=true↔vw n xs):=by
 refine aM _ (aP 38) λB w0=>?_;refine aS (E:=ae) (v:=v) (xs:=xs) (by simp) λav cv ev=>?_;subst ev;refine go ?_;refine aU (λk=>xs.length - k) (λk:Nat=>[(9,.int .i64 (k:Int))]) (λ_=>[]) (λ_=>[]) (λk=>k<=xs.length/\um xs k) 0 ⟨bR _,λi h=>absurd h (Nat.not_lt_zero _)⟩ (body:=?_);rintro k ⟨hk,hall⟩;refine go ?_;refine aA rfl (λh1=>?_) (λh1=>?_)
 ·refine go ?_;intro _ _ x hx;refine go ?_;refine gG (λh2=>?_) (λh2=>?_)
  rotate_left
  ·refine go ?_;exact ah false (hv:=rfl) (hp:=um.not hx (λq=>by omega) _ rfl)
  refine go ?_;refine gG (λh3=>?_) (λh3=>?_)
  rotate_left
  ·refine go ?_;exact ah false (hv:=rfl) (hp:=um.not hx (λq=>by omega) _ rfl)
  obtain⟨xn,rfl⟩:=jA (by omega:0<=x);refine go ?_;intro _ _ y hy;refine go ?_;refine aA rfl (λh4=>?_) (λh4=>?_)
  ·refine go ?_;exact ah false (hv:=rfl) (hp:=um.not hx (λq=>by have:=q.2.2;rw[ji hy]at this;exact h4 this) _ rfl)
  refine go ?_;exact aN (k+1) (by omega) ⟨by omega,hall.step hx (by omega) (by omega) (by rw[ji hy];exact ic.1 h4)⟩
 have hke:k=xs.length:=by omega
 subst hke;refine go ?_;refine ah (decide ((xs.length:Int)=(n:Int))) (hv:=rfl) (hp:=?_);rw[lM];exact⟨λe=>⟨by omega,λi hi=>hall i (by omega)⟩,λq=>by have:=q.len;omega⟩
def jQ(cl sy:List Int)(s:Int):Nat->List Int
 |0=>sy
 |k+1=>if aB (jQ cl sy s k) s<0/\aB cl (k:Int)=aB cl s/\(k:Int)∉jQ cl sy s k then(jQ cl sy s k).set s.toNat (k:Int)else jQ cl sy s k
theorem Pn(cl sy:List Int)(s:Int):∀k,(jQ cl sy s k).length=sy.length
 |0=>rfl
 |k+1=>by
  unfold jQ;split
  ·rw[pV,Pn cl sy s k]
  ·exact Pn cl sy s k
theorem W9{cl sy:List Int}{s:Int}(s0:0<=s)(s1:s<sy.length):∀k,jQ cl sy s k=if 0<=aB sy s then sy else(match (List.range k).find? (λt:Nat=>decide (aB cl (t:Int)=aB cl s)&&!decide ((t:Int)∈sy))with
 |none=>sy
 |some t=>sy.set s.toNat (t:Int))
 |0=>by
  rw[List.range_zero,List.find?_nil];dsimp only;rw[ite_self];rfl
 |k+1=>by
  have ih:=W9 (cl:=cl) s0 s1 k;unfold jQ;rw[ih];by_cases h0:0<=aB sy s
  ·rw[if_pos h0,if_pos h0,if_neg (by omega)]
  ·rw[if_neg h0,if_neg h0,Gm,List.find?_append];cases hf:(List.range k).find? (λt:Nat=>decide (aB cl (t:Int)=aB cl s)&&!decide ((t:Int)∈sy))with
   |some t=>
    dsimp only[Option.some_or];rw[if_neg];rintro⟨h,_⟩;rw[FB s0 s1 s0,if_pos rfl]at h;omega
   |none=>
    dsimp only[Option.none_or];rw[List.find?_cons,List.find?_nil];by_cases hc:aB cl (k:Int)=aB cl s
    ·by_cases hm:(k:Int)∈sy
     ·rw[if_neg (λq=>q.2.2 hm),dK hm];simp
     ·rw[if_pos ⟨by omega,hc,hm⟩,aR hm,dK hc];simp
    ·rw[if_neg (λq=>hc q.2.1),aR hc];simp
theorem ai4{m:Nat}{cl sy:List Int}{s:Int}(hc:cl.length=m)(hl:sy.length=m)(s0:0<=s)(s1:s<(m:Int)):jQ cl sy s m=pK cl sy s:=by
 rw[W9 s0 (by omega) m];unfold pK ug;rw[hc];rfl
theorem ai5{n:Nat}{xs:List Int}{s j:Nat}(hs:s<xs.length)(hneg:aB xs (s:Int)<0)(hj:j<n):(jv n xs).set (0+j*1) (.bool true)=jv n (xs.set s (j:Int)):=by
 rw[fo,uw];apply iY;intro i;rw[oQ,JL];unfold jv;by_cases hi:i<n
 ·rw[dm,pU hi,dm,pU hi];by_cases e:j=i
  ·subst e;have:(j:Int)∈xs.set s (j:Int):=aZ (i:=s) (by rw[List.getElem?_set_self hs]);simp[hj,this]
  ·rw[if_neg e];have:((i:Int)∈xs.set s (j:Int))↔(i:Int)∈xs:=by
    constructor
    ·intro h;rcases List.mem_or_eq_of_mem_set h with h|h
     ·exact h
     ·omega
    ·intro h;obtain⟨q,hq⟩:=jS h;have hne:s≠q:=λe=>by
      subst e;rw[ji hq]at hneg;omega
     exact aZ (i:=q) (by rw[List.getElem?_set_ne hne];exact hq)
   show some (Value.bool (decide ((i:Int)∈xs)))=some (Value.bool (decide ((i:Int)∈xs.set s (j:Int))));rw[nO.2 this]
 ·rw[fO (by rw[bY,uu];omega),fO (by rw[bY,uu];omega)];by_cases e:j=i
  ·rw[if_pos e,if_neg (by omega)]
  ·rw[if_neg e]
theorem ai6(n m:Nat):jv n (List.replicate m (-1))=jv n []:=by
 unfold jv;refine sN λj _=>?_;have:¬((j:Int)∈List.replicate m (-1:Int)):=λh=>by
  have:=(List.mem_replicate.1 h).2;omega
 rw[aR this];simp
theorem Xa{xs:List Int}{k:Nat}{s:Int}(hs:s=(k:Int))(hk:k<xs.length):(xs.map (Value.int .i64))[0+k*1]? =some (Value.int .i64 (aB xs s)):=by
 subst hs;rw[fo,uw,dm];have:=rW (p:=xs) (c:=(k:Int)) (by omega) (by omega);rw[kJ]at this;rw[this];rfl
abbrev sI(b m:Nat):Value:=.slice (some ⟨b,0,some 0⟩) m m
theorem Po{b4 b8 b9 bs bu m:Nat}{cl sy:List Int}{s:Int}{vc:Value}(hc:cl.length=m)(hm:m<=4096)(hG:sy.length=m)(s0:0<=s)(s1:s<(m:Int)):
 bA Tryz.prog (.func 77) [.int .i64 s] [ptr' b4,ptr' b8,ptr' b9] [pt bs (.cells (sy.map (.int .i64))),pt bu (.cells (jv m sy))] [gY b4 0 [vc],ai ae vc cl,gY b8 0 [sI bs m],gY b9 0 [sI bu m]] (λ_:Unit=>.tuple ⟨[]⟩)
  (λ_=>[pt bs (.cells ((pK cl sy s).map (.int .i64))),pt bu (.cells (jv m (pK cl sy s)))]) (λ_=>[]) (λ_=>True):=by
 have hS:=ai4 (cl:=cl) (sy:=sy) hc hG s0 s1;have hrl:=Pn cl sy s;obtain⟨sn,rfl⟩:=jA s0;refine aM _ (aP 77) λB w0=>?_;refine aS (E:=ae) (v:=vc) (xs:=cl) (by simp) λacl Xb F4=>?_;subst F4;refine go ?_;refine aU (λk:Nat=>m - k) (λk=>[(8,.int .i64 (k:Int))]) (λk=>[pt bs (.cells ((jQ cl sy (sn:Int) k).map (.int .i64))),pt bu (.cells (jv m (jQ cl sy (sn:Int) k)))]) (λ_=>[]) (λk=>k<=m) 0 (bR _) (hk:=by repeat (first|exact aI.nil|(apply aI.cons;(focus (repeat (first|exact az.here|apply az.there)))))) (body:=?_);intro k hk;have Dm:=hrl k;have hno:¬(aB (jQ cl sy (sn:Int) k) (sn:Int)<0/\aB cl (k:Int)=aB cl (sn:Int)/\(k:Int)∉jQ cl sy (sn:Int) k)->jQ cl sy (sn:Int) (k+1)=jQ cl sy (sn:Int) k:=λh=>if_neg h;have ai7:(aB (jQ cl sy (sn:Int) k) (sn:Int)<0/\aB cl (k:Int)=aB cl (sn:Int)/\(k:Int)∉jQ cl sy (sn:Int) k)->jQ cl sy (sn:Int) (k+1)=(jQ cl sy (sn:Int) k).set sn (k:Int):=λh=>if_pos h;refine go ?_;refine aA rfl (λh1=>?_) (λh1=>?_)
 rotate_left
 ·have hke:k=m:=by omega
  subst hke;rw[hS];refine go ?_;exact ah () (hv:=rfl) (hp:=trivial)
 refine go ?_;refine qh (b:=bs) (o:=0+sn*1) (cs:=(jQ cl sy (sn:Int) k).map (.int .i64)) (.int .i64 (aB (jQ cl sy (sn:Int) k) (sn:Int))) (Xa rfl (by omega)) ?_;refine go ?_;refine gG (λh2=>?_) (λh2=>?_)
 ·refine go ?_;have e:=hno (λq=>h2 q.1);refine aN (k+1) (by show m - (k+1)<m - k;omega) (by show k+1<=m;omega) (hk:=by rw[e];repeat (first|exact aI.nil|(apply aI.cons;(focus (repeat (first|exact az.here|apply az.there))))))
 refine go ?_;intro _ _ x hx;refine go ?_;intro _ _ y hy;have hxg:=ji hx;have hyg:=ji hy;refine go ?_;refine gG (λh3=>?_) (λh3=>?_)
 ·refine go ?_;have e:=hno (λq=>h3 (by rw[<- hxg,<- hyg];exact q.2.1));refine aN (k+1) (by show m - (k+1)<m - k;omega) (by show k+1<=m;omega) (hk:=by rw[e];repeat (first|exact aI.nil|(apply aI.cons;(focus (repeat (first|exact az.here|apply az.there))))))
 refine go ?_;refine qh (b:=bu) (o:=0+k*1) (cs:=jv m (jQ cl sy (sn:Int) k)) (.bool (decide ((k:Int)∈jQ cl sy (sn:Int) k))) (VO (by omega)) ?_;refine go ?_;refine fq rfl (λh4=>?_) (λh4=>?_)
 rotate_left
 ·refine go ?_;have e:=hno (λq=>q.2.2 h4);refine aN (k+1) (by show m - (k+1)<m - k;omega) (by show k+1<=m;omega) (hk:=by rw[e];repeat (first|exact aI.nil|(apply aI.cons;(focus (repeat (first|exact az.here|apply az.there))))))
 have e:=ai7 ⟨h2,by rw[hxg,hyg];exact h3,h4⟩;refine go ?_;refine(MG (b:=bs) (o:=0+sn*1) (cs:=(jQ cl sy (sn:Int) k).map (.int .i64)) (vs:=[.int .i64 (k:Int)]) (c:=(jQ cl sy (sn:Int) (k+1)).map (.int .i64)) rfl rfl rfl rfl rfl (by repeat (first|exact az.here|apply az.there)) (by rw[Hl _ _ _ (by rw[bY];omega),e,fo,uw,DD]) (by repeat (first|exact yZ|refine Cy rfl (by repeat (first|exact cB .. |apply cO)) rfl rfl ?_|refine MF (EI rfl) rfl ?_))).h ?_;refine go ?_;refine qI (b:=bu) (o:=0+k*1) (cs:=jv m (jQ cl sy (sn:Int) k)) (v:=.bool true) (cs':=jv m (jQ cl sy (sn:Int) (k+1))) (by rw[e,ai5 (by omega) h2 (by omega)]) (by rw[JL];omega) ?_;refine go ?_;exact aN (k+1) (by show m - (k+1)<m - k;omega) (by show k+1<=m;omega)
theorem ai8{ys:List CV}{i:Nat}{g:Clue}{v w:bO.Y}{vs:List Int}(hy:ys[i]? =some (g,w)):(eG bO ys).set (0+i*3+2) v=eG bO (ys.set i (⟨g.aL,g.at_,vs⟩,v)):=by
 induction ys generalizing i with
 |nil=>cases hy
 |cons y ys ih=>
  have hp:∀(y:CV) (ys:List CV),eG bO (y::ys)=(Value.int .i64 y.1.aL::Value.int .i64 y.1.at_::y.2::eG bO ys:List Value):=λ_ _=>rfl;cases i with
  |zero=>
   cases hy;rfl
  |succ i=>
   have h2:ys[i]? =some (g,w):=hy;rw[List.set_cons_succ,hp,hp,<- ih h2,show 0+(i+1)*3+2=(0+i*3+2)+3 by omega];rfl
theorem J9{sy:Int->Bool}{p:List Clue}{i:Nat}{g:Clue}(h:p[i]? =some g):ed sy (p.take (i+1))=ed sy (p.take i)++(if sy g.aL then g.values else[]):=by
 unfold ed;rw[bZ h,List.flatMap_append,List.flatMap_singleton]
theorem ai9{sy:Int->Bool}{p:List Clue}(i:Nat):∃r,ed sy p=ed sy (p.take i)++r:=by
 refine⟨ed sy (p.drop i),?_⟩;unfold ed;rw[<- List.flatMap_append,uq]
theorem Ka{sy:Int->Bool}{m:Nat}{p:List Clue}(h:oK sy m p)(i:Nat):iP m (ed sy (p.take i)):=wE λg hg=>h g (BJ hg)
theorem aja{sy:Int->Bool}{m:Nat}{cl:List Int}{p:List Clue}(hc:cl.length=m)(h:oK sy m p)(i:Nat){v:Int}(hv:v∈ed sy (p.take i)):aB (fH cl (ed sy (p.take i))) v=aB (dz sy cl p) v:=by
 obtain⟨r,hr⟩:=ai9 (sy:=sy) (p:=p) i;unfold dz;rw[hr,hc,List.append_assoc];have hr2:iP m (r++upTo' m):=λx hx=>by
  rcases dX.1 hx with hx|hx
  ·exact wE h x (by rw[hr];exact nA _ hx)
  ·exact(dF.ident m).fG x hx
 exact(NR hc _ (Ka h i) hv _ _ rfl hr2).symm
structure RnY where
 v:Value
 s:Value
theorem ajc{k:bD}{cl:List Int}{p:List Clue}{vh vs vr vc vu gh gc vn vl vp jR:Value}(hK:dH k)(hQ:gX k p)(hcl:cl.length=k.decl.symbols.length):
 bA Tryz.prog (.func 39) [.agg ⟨kZ k vh vs vr vc vu gh gc vn vl⟩,jR,.agg ⟨[vp]⟩] [] [] [ai ae jR cl,ai bO vp p,ai bI vc k.decl.aJ] (λy:RnY=>.tuple ⟨[.agg ⟨[y.v]⟩,y.s]⟩) (λ_=>[])
  (λy=>[ai bO y.v (bK (aK k) (dz (aK k) cl p) p),ai ae y.s (dz (aK k) cl p)]) (λ_=>True):=by
 have hsy:=gX.oJ hQ;have hpl:=hQ.len;have hm:=hK.typ.lim.s1;generalize hmm:k.decl.symbols.length=m at *;have hc:=hcl;refine aM _ (aP 39) λB w0=>?_;refine aS (E:=ae) (v:=jR) (xs:=cl) (by simp) λac cc ec=>?_;subst ec;refine aS (E:=bO) (v:=vp) (xs:=p) (by simp) λJS cp ep=>?_;subst ep;refine go ?_;intro b3 b4 b5 b6;refine bn (eX (b:=b3)) (h:=?_);refine bn (eX (b:=b4)) (h:=?_);refine bn (eX (b:=b5)) (h:=?_);refine go ?_;rw[hc];refine IK m ⟨by omega,by omega,by omega⟩ λbs=>?_;rw[ahb];refine go ?_;refine IK m ⟨by omega,by omega,by omega⟩ λbu=>?_;rw[VP];refine go ?_;intro b8 b9;refine go ?_;refine bn (eX (b:=b8)) (h:=?_);refine bn (eX (b:=b9)) (h:=?_);refine go ?_;refine aU (λj:Nat=>m - j) (λj=>[(24,.int .i64 (j:Int))]) (λj=>[pt bs (.cells ((sw (List.replicate j (-1)) m).map (.int .i64)))]) (λ_=>[]) (λj=>j<=m) 0 (bR _) (hk:=by repeat (first|exact aI.nil|(apply aI.cons;(focus (repeat (first|exact az.here|apply az.there)))))) (body:=?_);intro j hj;refine go ?_;refine aA rfl (λh1=>?_) (λh1=>?_)
 ·refine go ?_;refine qI (b:=bs) (o:=0+j*1) (cs:=(sw (List.replicate j (-1)) m).map (.int .i64)) (v:=.int .i64 (-1)) (cs':=(sw (List.replicate (j+1) (-1)) m).map (.int .i64)) (by rw[fo,uw,<- DD,ag8 (by rw[Gn]) (by omega),List.replicate_succ']) (by rw[bY,ag7 (by rw[Gn];omega)];omega) ?_;refine go ?_;exact aN (j+1) (by show m - (j+1)<m - j;omega) (by show j+1<=m;omega)
 have iR:m=j:=by omega
 subst iR;rw[ag9 Gn];refine go ?_;refine ay (ag6 (xs:=p) (by omega)) (next:=λa ha=>?_);refine go ?_;intro b12;refine go ?_;have hg0:List.replicate m (-1)=fH cl (ed (aK k) (p.take 0)):=by
  rw[DK];show _=fH cl [];rw[NP,hc]
 have hs0:jv m []=jv m (fH cl (ed (aK k) (p.take 0))):=by rw[<- hg0,ai6]
 rw[hg0,hs0];rcases ha with⟨rfl,h0⟩|⟨b,f,rfl⟩
 ·have hx:p=[]:=jy.1 h0;have hst:ed (aK k) (p.take 0)=ed (aK k) p:=by rw[hx];rfl
  rw[h0,hst];refine mR ?_;refine go ?_;refine eF (ai bO (.slice none 0 0) (bK (aK k) (dz (aK k) cl p) p)) (λw hw=>by rw[hx];exact .inl ⟨rfl,none,0,rfl,trivial⟩) ?_;refine aU (λj:Nat=>m - j) (λj=>[(75,.int .i64 (j:Int))]) (λj=>[pt bs (.cells ((fH cl (ed (aK k) p++(upTo' m).take j)).map (.int .i64))),pt bu (.cells (jv m (fH cl (ed (aK k) p++(upTo' m).take j))))]) (λ_=>[]) (λj=>j<=m) 0 (bR _) (hk:=by rw[DK,gU];repeat (first|exact aI.nil|(apply aI.cons;(focus (repeat (first|exact az.here|apply az.there)))))) (body:=?_);intro j hj;have F5:iP m (ed (aK k) p++(upTo' m).take j):=λx hx=>by
   rcases dX.1 hx with hx|hx
   ·exact wE hsy x hx
   ·exact(dF.ident m).fG x (BJ hx)
  have hgi:=(vz hc _ _ rfl F5).1;refine go ?_;refine aA rfl (λh1=>?_) (λh1=>?_)
  ·refine go ?_;refine ay (Po (b4:=b4) (b8:=b8) (b9:=b9) (bs:=bs) (bu:=bu) (m:=m) (cl:=cl) (sy:=fH cl (ed (aK k) p++(upTo' m).take j)) (s:=(j:Int)) (vc:=.slice ac m cc) hc (by omega) hgi.len (by omega) (by omega)) (next:=λ_ _=>?_);have hnx:(upTo' m)[j]? =some (j:Int):=by
    unfold upTo';rw[dm,pU (by omega)];rfl
   rw[<- wD,List.append_assoc,<- bZ hnx];refine go ?_;exact aN (j+1) (by show m - (j+1)<m - j;omega) (by show j+1<=m;omega)
  have iR:m=j:=by omega
  subst iR;rw[ry (by rw[lZ];exact bT _)];have hfl:(fH cl (ed (aK k) p++upTo' m)).length=m:=(vz hc _ _ rfl (λx hx=>by
   rcases dX.1 hx with hx|hx
   ·exact wE hsy x hx
   ·exact(dF.ident m).fG x hx)).1.len
  have hgr:fH cl (ed (aK k) p++upTo' m)=dz (aK k) cl p:=by unfold dz;rw[hc]
  rw[hgr]at hfl⊢;refine bn (A:=pt bs (.cells ((dz (aK k) cl p).map (.int .i64)))) (fs:=[ai ae (sI bs m) (dz (aK k) cl p)]) (by have:=uR (b:=bs) (f:=0) (c:=m) (xs:=dz (aK k) cl p) (hc:=by omega);rw[hfl]at this;exact this) (h:=?_);refine go ?_;exact ah ⟨(.slice none 0 0),sI bs m⟩ (hv:=rfl) (hp:=trivial)
 refine adB bO λaC hxy hmx hf=>?_;have hxl:aC.length=p.length:=by rw[<- hxy,bY]
 refine aU (λy:Nat×List CV=>p.length - y.1) (λy=>[(39,.int .i64 (y.1:Int))]) (λy=>[pt b (.cells (eG bO y.2)),pt bs (.cells ((fH cl (ed (aK k) (p.take y.1))).map (.int .i64))),pt bu (.cells (jv m (fH cl (ed (aK k) (p.take y.1)))))]) (λy=>[pG bO y.2]) (λy=>y.1<=p.length/\y.2.map (·.1)=bK (aK k) (dz (aK k) cl p) (p.take y.1)++p.drop y.1) (0,aC) ⟨bR _,by rw[hxy];rfl⟩ (hk:=by repeat (first|exact aI.nil|(apply aI.cons;(focus (repeat (first|exact az.here|apply az.there)))))) (body:=?_);rintro⟨i,ys⟩ ⟨hi,hys⟩;dsimp only at hi hys⊢;have hyl:ys.length=p.length:=by
  have:=congrArg List.length hys;unfold bK at this;rw[bY,iH,bY,gT,sO]at this;omega
 have hin:=Ka hsy i;have hgi:=(vz hc _ _ rfl hin).1;refine go ?_;refine aA rfl (λh1=>?_) (λh1=>?_)
 rotate_left
 ·have hie:i=p.length:=by omega
  subst hie;rw[bU,List.drop_length,gU]at hys;rw[bU];have e0:eG bO ys=eG bO ys++[]:=(gU _).symm;rw[e0];refine adC bO (aC:=ys) (b:=b) (f:=f) (c:=p.length) hf (by omega) ?_ (λw hw=>hw (pG bO ys) (by simp));rw[hyl,hys];refine go ?_;refine aU (λj:Nat=>m - j) (λj=>[(75,.int .i64 (j:Int))]) (λj=>[pt bs (.cells ((fH cl (ed (aK k) p++(upTo' m).take j)).map (.int .i64))),pt bu (.cells (jv m (fH cl (ed (aK k) p++(upTo' m).take j))))]) (λ_=>[]) (λj=>j<=m) 0 (bR _) (hk:=by rw[DK,gU];repeat (first|exact aI.nil|(apply aI.cons;(focus (repeat (first|exact az.here|apply az.there)))))) (body:=?_);intro j hj;have F5:iP m (ed (aK k) p++(upTo' m).take j):=λx hx=>by
   rcases dX.1 hx with hx|hx
   ·exact wE hsy x hx
   ·exact(dF.ident m).fG x (BJ hx)
  have hgi:=(vz hc _ _ rfl F5).1;refine go ?_;refine aA rfl (λh1=>?_) (λh1=>?_)
  ·refine go ?_;refine ay (Po (b4:=b4) (b8:=b8) (b9:=b9) (bs:=bs) (bu:=bu) (m:=m) (cl:=cl) (sy:=fH cl (ed (aK k) p++(upTo' m).take j)) (s:=(j:Int)) (vc:=.slice ac m cc) hc (by omega) hgi.len (by omega) (by omega)) (next:=λ_ _=>?_);have hnx:(upTo' m)[j]? =some (j:Int):=by
    unfold upTo';rw[dm,pU (by omega)];rfl
   rw[<- wD,List.append_assoc,<- bZ hnx];refine go ?_;exact aN (j+1) (by show m - (j+1)<m - j;omega) (by show j+1<=m;omega)
  have iR:m=j:=by omega
  subst iR;rw[ry (by rw[lZ];exact bT _)];have hfl:(fH cl (ed (aK k) p++upTo' m)).length=m:=(vz hc _ _ rfl (λx hx=>by
   rcases dX.1 hx with hx|hx
   ·exact wE hsy x hx
   ·exact(dF.ident m).fG x hx)).1.len
  have hgr:fH cl (ed (aK k) p++upTo' m)=dz (aK k) cl p:=by unfold dz;rw[hc]
  rw[hgr]at hfl⊢;refine bn (A:=pt bs (.cells ((dz (aK k) cl p).map (.int .i64)))) (fs:=[ai ae (sI bs m) (dz (aK k) cl p)]) (by have:=uR (b:=bs) (f:=0) (c:=m) (xs:=dz (aK k) cl p) (hc:=by omega);rw[hfl]at this;exact this) (h:=?_);refine go ?_;exact ah ⟨(.slice (some ⟨b,0,some f⟩) p.length p.length),sI bs m⟩ (hv:=rfl) (hp:=trivial)
 obtain⟨g,hg⟩:∃g,p[i]? =some g:=⟨_,bP (by omega)⟩
 have hgm:=aZ hg;obtain⟨⟨g',vg⟩,hy⟩:∃y:Clue×Value,ys[i]? =some y:=⟨_,bP (by omega)⟩
 have hgg:g'=g:=by
  have h2:(ys.map (·.1))[i]? =some g':=by rw[dm,hy];rfl
  rw[hys,pR (by unfold bK;rw[bY,gT];omega),show i - (bK (aK k) (dz (aK k) cl p) (p.take i)).length=0 by unfold bK;rw[bY,gT];omega,oO,zM,hg]at h2;exact(Option.some.inj h2).symm
 subst hgg;obtain⟨c,L,r1,r2,r3,r4,r5,r6⟩:=hQ.right g' hgm;obtain⟨cn,hcn⟩:=jA r1;have hcc:=r2;rw[hcn,kJ]at hcc;have Xc:=(bq.1 hcc).1;have hsc:=Dr (k:=k) (g:=g') r2;refine go ?_;refine adA bO (o:=0+i*3) hy (by show 0+i*3=i*bO.n;rw[show bO.n=3 from rfl];omega) ?_;refine eF (ai ae vg g'.values) (λw hw=>hw (pG bO ys) (by simp) (g',vg) (aZ hy) _ (by simp[bO])) ?_;rw[show bO.pat (g',vg).1 (g',vg).2=[.int .i64 (cn:Int),.int .i64 g'.at_,vg]by rw[<- hcn];rfl];refine go ?_;intro b14;refine go ?_;refine bi bI (xs:=k.decl.aJ) (k:=cn) (next:=λ_ _ c2 (_:Unit) hc2=>?_);rw[hcc]at hc2;obtain rfl:c=c2:=Option.some.inj hc2;refine go ?_;have hset:(ys.set i (iQ (aK k) (dz (aK k) cl p) g',vg)).map (·.1)=bK (aK k) (dz (aK k) cl p) (p.take (i+1))++p.drop (i+1):=by
  rw[DD,hys];have h3:p.drop i=g'::p.drop (i+1):=by
   have:=bq.1 hg;obtain⟨h4,h5⟩:=this;rw[oU h4,h5]
  have h4:(bK (aK k) (dz (aK k) cl p) (p.take i)).length=i:=by unfold bK;rw[bY,gT];omega
  rw[h3,Gl _ _ (by omega),h4,vK,List.set_cons_zero];unfold bK;rw[bZ hg,fP,sQ,List.append_assoc];rfl
 refine aA rfl (λt1=>?_) (λt1=>?_)
 rotate_left
 ·have Xd:aK k g'.aL=false:=by rw[hsc];exact aR t1
  have hrc:iQ (aK k) (dz (aK k) cl p) g'=g':=by unfold iQ;rw[Xd];rfl
  rw[hrc]at hset;have hse:ys.set i (g',vg)=ys:=by
   apply iY;intro q;rw[oQ];split
   ·rename_i e;subst e;rw[if_pos (by omega),hy]<;>rfl
   ·rfl
  rw[hse]at hset;have hst:ed (aK k) (p.take (i+1))=ed (aK k) (p.take i):=by rw[J9 hg,Xd];simp
  refine go ?_;refine aN (i+1,ys) (by show p.length - (i+1)<p.length - i;omega) ⟨by dsimp only;omega,hset⟩ (hk:=by dsimp only;rw[hst];repeat (first|exact aI.nil|(apply aI.cons;(focus (repeat (first|exact az.here|apply az.there))))))
 have Pp:aK k g'.aL=true:=by rw[hsc];exact dK t1
 obtain⟨v0,hv0,F6,Xe⟩:=hsy g' hgm Pp;obtain⟨lJ,rfl⟩:=jA F6;have hst:ed (aK k) (p.take (i+1))=ed (aK k) (p.take i)++[(lJ:Int)]:=by rw[J9 hg,Pp,if_pos rfl,hv0]
 rw[hv0];refine go ?_;refine bi ae (xs:=[(lJ:Int)]) (k:=0) (h1:=by simp) (next:=λ_ _ x (_:Unit) hx=>?_);have hx0:(lJ:Int)=x:=by simpa using hx
 subst hx0;refine go ?_;refine ay (Po (b4:=b4) (b8:=b8) (b9:=b9) (bs:=bs) (bu:=bu) (m:=m) (cl:=cl) (sy:=fH cl (ed (aK k) (p.take i))) (s:=(lJ:Int)) (vc:=.slice ac m cc) hc (by omega) hgi.len (by omega) (by omega)) (next:=λ_ _=>?_);rw[<- wD,<- hst];have hgl:(fH cl (ed (aK k) (p.take (i+1)))).length=m:=(vz hc _ _ rfl (Ka hsy (i+1))).1.len;have hz:aB (fH cl (ed (aK k) (p.take (i+1)))) (lJ:Int)=aB (dz (aK k) cl p) (lJ:Int):=aja hc hsy (i+1) (by rw[hst];simp);refine go ?_;refine bi ae (xs:=[(lJ:Int)]) (k:=0) (h1:=by simp) (next:=λ_ _ x (_:Unit) hx=>?_);have hx0:(lJ:Int)=x:=by simpa using hx
 subst hx0;refine go ?_;refine qh (b:=bs) (o:=0+lJ*1) (cs:=(fH cl (ed (aK k) (p.take (i+1)))).map (.int .i64)) (.int .i64 (aB (fH cl (ed (aK k) (p.take (i+1)))) (lJ:Int))) (Xa rfl (by omega)) ?_;rw[hz];refine go ?_;intro zH;refine go ?_;refine bn VQ (h:=?_);have hrc:iQ (aK k) (dz (aK k) cl p) g'=⟨g'.aL,g'.at_,[aB (dz (aK k) cl p) (lJ:Int)]⟩:=by unfold iQ;rw[Pp,if_pos rfl,hv0];rfl
 refine qI (b:=b) (o:=0+i*3+2) (cs:=eG bO ys) (v:=sI zH 1) (cs':=eG bO (ys.set i (iQ (aK k) (dz (aK k) cl p) g',sI zH 1))) (by rw[hrc];exact ai8 hy) (by rw[za,show bO.n=3 from rfl];omega) ?_;refine eF (pG bO (ys.set i (iQ (aK k) (dz (aK k) cl p) g',sI zH 1))) (λw hw q hq f hf=>by
  rcases List.mem_or_eq_of_mem_set hq with h|h
  ·exact hw (pG bO ys) (by simp) q h f hf
  ·subst h;rw[hrc]at hf;have:f=ai ae (sI zH 1) [aB (dz (aK k) cl p) (lJ:Int)]:=by simpa[bO]using hf
   rw[this];exact hw (ai ae (sI zH 1) [aB (dz (aK k) cl p) (lJ:Int)]) (by simp)) ?_
 refine go ?_;refine aN (i+1,ys.set i (iQ (aK k) (dz (aK k) cl p) g',sI zH 1)) (by show p.length - (i+1)<p.length - i;omega) ⟨by dsimp only;omega,by dsimp only;rw[<- hset,DD,DD]⟩
structure Dv(k:bD)(p:List Clue)(cl:List Int)(e:Int):Prop where
 nk:¬dH k->e=180
 np:dH k->¬gX k p->e=190
 nc:dH k->gX k p->¬vw k.decl.symbols.length cl->e=1
 ok:dH k->gX k p->vw k.decl.symbols.length cl->e=0
structure Pq where
 v:Value
 s:Value
 e:Int
abbrev Xf(y:Pq):Value:=.tuple ⟨[.agg ⟨[y.v]⟩,y.s,.int .i64 y.e]⟩
abbrev Xg(k:bD)(p:List Clue)(cl:List Int)(y:Pq):List aO:=[jr (y.e=0) (ai bO y.v (bK (aK k) (dz (aK k) cl p) p)),jr (y.e=0) (ai ae y.s (dz (aK k) cl p))]
abbrev Xh(k:bD)(p:List Clue)(cl:List Int)(y:Pq):Prop:=Dv k p cl y.e/\(y.e≠0->y.v=.slice none 0 0/\y.s=.slice none 0 0)
theorem Kb{k:bD}{cl:List Int}{p:List Clue}{vh vs vr vc vu gh gc vn vl vp jR:Value}(hS:nZ k)(hP:wK p)(hl:cl.length<9223372036854775808):
 bA Tryz.prog (.func 16) [.agg ⟨kZ k vh vs vr vc vu gh gc vn vl⟩,jR,.agg ⟨[vp]⟩] [] [] (ai ae jR cl::ai bO vp p::j6 k vh vs vr vc vu gh gc vn vl []) Xf (λ_=>[]) (Xg k p cl) (Xh k p cl):=by
 refine aM _ (aP 16) λB w0=>?_;dsimp only[j6];refine aS (E:=fF) (v:=vs) (xs:=k.decl.symbols) (by simp) λkY cs1 es1=>?_;subst es1;refine go ?_;intro b3 b5 b6;refine go ?_;refine ay (ag2 (k:=k) (p:=p) (vh:=vh) (vs:=.slice kY k.decl.symbols.length cs1) hS hP) (next:=λe he=>?_);refine go ?_;refine aA rfl (λhne=>?_) (λhz=>?_)
 ·refine go ?_;refine jE (c:=e=0) (f:=ai bO (.slice none 0 0) (bK (aK k) (dz (aK k) cl p) p)) hne ?_;refine jE (c:=e=0) (f:=ai ae (.slice none 0 0) (dz (aK k) cl p)) hne ?_;exact ah ⟨.slice none 0 0,.slice none 0 0,e⟩ (hv:=rfl) (hp:=⟨⟨he.1,he.2.1,λa b _=>absurd (he.2.2 a b) hne,λa b _=>absurd (he.2.2 a b) hne⟩,λ_=>⟨rfl,rfl⟩⟩)
 have hz:e=0:=ic.1 hz;subst hz;have hK:dH k:=Classical.byContradiction λh=>by have:=he.1 h;omega
 have hQ:gX k p:=Classical.byContradiction λh=>by have:=he.2.1 hK h;omega
 clear he;refine go ?_;refine ay (ai3 (v:=jR) (xs:=cl) (n:=k.decl.symbols.length) hl) (next:=λb hb=>?_);cases b with
 |false=>
  have hno:¬vw k.decl.symbols.length cl:=λh=>by have:=hb.2 h;cases this
  refine go ?_;refine jE (c:=(1:Int)=0) (f:=ai bO (.slice none 0 0) (bK (aK k) (dz (aK k) cl p) p)) (by decide) ?_;refine jE (c:=(1:Int)=0) (f:=ai ae (.slice none 0 0) (dz (aK k) cl p)) (by decide) ?_;exact ah ⟨.slice none 0 0,.slice none 0 0,1⟩ (hv:=rfl) (hp:=⟨⟨λh=>absurd hK h,λ_ h=>absurd hQ h,λ_ _ _=>rfl,λ_ _ h=>absurd h hno⟩,λ_=>⟨rfl,rfl⟩⟩)
 |true=>
 have hC:=hb.1 rfl;refine go ?_;refine ay (ajc (k:=k) (cl:=cl) (p:=p) (vh:=vh) (vs:=.slice kY k.decl.symbols.length cs1) hK hQ hC.len) (next:=λy _=>?_);refine go ?_;refine jP (c:=(0:Int)=0) (f:=ai bO y.v (bK (aK k) (dz (aK k) cl p) p)) (by simp) ?_;refine jP (c:=(0:Int)=0) (f:=ai ae y.s (dz (aK k) cl p)) (by simp) ?_;exact ah ⟨y.v,y.s,0⟩ (hv:=rfl) (hp:=⟨⟨λh=>absurd hK h,λ_ h=>absurd hQ h,λ_ _ h=>absurd hC h,λ_ _ _=>rfl⟩,λh=>absurd rfl h⟩)
theorem ajd{v:Value}{xs:List Int}{n:Nat}(hl:xs.length<9223372036854775808):bA Tryz.prog (.func 41) [v,.int .i64 (n:Int)] [] [] [ai ae v xs] (λb:Bool=>.bool b) (λ_=>[]) (λ_=>[]) (λb=>b=true↔vw n xs):=by
 refine aM _ (aP 41) λB w0=>?_;refine aS (E:=ae) (v:=v) (xs:=xs) (by simp) λav cv ev=>?_;subst ev;refine go ?_;refine aU (λk=>xs.length - k) (λk:Nat=>[(5,.int .i64 (k:Int))]) (λ_=>[]) (λ_=>[]) (λk=>k<=xs.length/\um xs k) 0 ⟨bR _,λi h=>absurd h (Nat.not_lt_zero _)⟩ (body:=?_);rintro k ⟨hk,hall⟩;refine go ?_;refine aA rfl (λh1=>?_) (λh1=>?_)
 ·refine go ?_;intro _ _ x hx;refine go ?_;refine gG (λh2=>?_) (λh2=>?_)
  rotate_left
  ·refine go ?_;exact ah false (hv:=rfl) (hp:=um.not hx (λq=>by omega) _ rfl)
  refine go ?_;refine gG (λh3=>?_) (λh3=>?_)
  rotate_left
  ·refine go ?_;exact ah false (hv:=rfl) (hp:=um.not hx (λq=>by omega) _ rfl)
  obtain⟨xn,rfl⟩:=jA (by omega:0<=x);refine go ?_;intro _ _ y hy;refine go ?_;refine aA rfl (λh4=>?_) (λh4=>?_)
  ·refine go ?_;exact ah false (hv:=rfl) (hp:=um.not hx (λq=>by have:=q.2.2;rw[ji hy]at this;exact h4 this) _ rfl)
  refine go ?_;exact aN (k+1) (by omega) ⟨by omega,hall.step hx (by omega) (by omega) (by rw[ji hy];exact ic.1 h4)⟩
 have hke:k=xs.length:=by omega
 subst hke;refine go ?_;refine ah (decide ((xs.length:Int)=(n:Int))) (hv:=rfl) (hp:=?_);rw[lM];exact⟨λe=>⟨by omega,λi hi=>hall i (by omega)⟩,λq=>by have:=q.len;omega⟩
def BC(cl sy:List Int)(s:Int):List Int:=match ug cl sy s with
 |none=>sy
 |some t=>sy.set s.toNat (t:Int)
theorem Xi{cl sy:List Int}{s:Int}(h:aB sy s<0):BC cl sy s=pK cl sy s:=by
 unfold BC pK;rw[if_neg (by omega)];rfl
theorem Xj{cl sy:List Int}{s:Int}(h:0<=aB sy s):pK cl sy s=sy:=by
 unfold pK;rw[if_pos h]
theorem aje{cl sy:List Int}{s:Int}{k:Nat}(hk:k<cl.length)(h1:aB cl (k:Int)=aB cl s)(h2:(k:Int)∉sy)(h3:∀t:Nat,t<k->¬(aB cl (t:Int)=aB cl s/\(t:Int)∉sy)):ug cl sy s=some k:=by
 unfold ug;rw[List.find?_range_eq_some];refine⟨by simp[h1,h2],ol.2 hk,λj hj=>?_⟩;have:=h3 j hj;by_cases e:aB cl (j:Int)=aB cl s
 ·by_cases e2:(j:Int)∈sy
  ·simp[e2]
  ·exact absurd ⟨e,e2⟩ this
 ·simp[e]
theorem ajf{cl sy:List Int}{s:Int}(h3:∀t:Nat,t<cl.length->¬(aB cl (t:Int)=aB cl s/\(t:Int)∉sy)):ug cl sy s=none:=by
 unfold ug;rw[List.find?_eq_none];intro j hj;have:=h3 j (ol.1 hj);by_cases e:aB cl (j:Int)=aB cl s
 ·by_cases e2:(j:Int)∈sy
  ·simp[e2]
  ·exact absurd ⟨e,e2⟩ this
 ·simp[e]
theorem Xk{m:Nat}{cl sy:List Int}{s:Nat}{va vb:Value}(hc:cl.length=m)(hm:m<=4096)(hl:sy.length=m)(s1:s<m):FnS Tryz.prog 81 [va,vb,.int .i64 (s:Int)] [ai ae va cl,ai ae vb sy] ae (BC cl sy (s:Int)):=by
 refine aM _ (aP 81) λB w0=>?_;refine aS (E:=ae) (v:=va) (xs:=cl) (by simp) λaa ca ea=>?_;subst ea;refine aS (E:=ae) (v:=vb) (xs:=sy) (by simp) λab cb eb=>?_;subst eb;refine go ?_;intro b11;refine go ?_;refine acO (xs:=sy) (by omega) ⟨by omega,by omega⟩ (λb'=>?_);refine go ?_;refine aU (λk=>cl.length - k) (λk:Nat=>[(8,.int .i64 (k:Int))]) (λ_=>[]) (λ_=>[]) (λk=>k<=cl.length/\∀t:Nat,t<k->¬(aB cl (t:Int)=aB cl (s:Int)/\(t:Int)∉sy)) 0 ⟨bR _,λt h=>absurd h (Nat.not_lt_zero _)⟩ (body:=?_);rintro k ⟨hk,hno⟩;refine go ?_;refine aA rfl (λh1=>?_) (λh1=>?_)
 rotate_left
 ·have hke:k=cl.length:=by omega
  subst hke;have hO:BC cl sy (s:Int)=sy:=by unfold BC;rw[ajf hno]
  refine bn (A:=pt b' (.cells (sy.map (.int .i64)))) (fs:=[ai ae (.slice (some ⟨b',0,some 1⟩) sy.length sy.length) sy]) (uR (b:=b') (f:=1) (c:=sy.length) (xs:=sy) (hf:=.inr rfl) (hc:=bT _)) (h:=?_);rw[hO];refine go ?_;exact ah (.slice (some ⟨b',0,some 1⟩) sy.length sy.length) (hv:=rfl) (hp:=trivial)
 refine go ?_;refine aU (λi=>sy.length - i) (λi:Nat=>[(10,.int .i64 (i:Int)),(9,.bool (decide ((k:Int)∈sy.take i)))]) (λ_=>[]) (λ_=>[]) (λi=>i<=sy.length) 0 (bR _) (hl:=⟨rfl,by show Value.bool false=_;simp,by repeat (first|exact trivial|refine⟨rfl,?_⟩)⟩) (body:=?_);intro i hi;refine go ?_;refine aA rfl (λh2=>?_) (λh2=>?_)
 ·obtain⟨x,hx⟩:∃x,sy[i]? =some x:=⟨_,bP (by omega)⟩
  have htk:=bZ hx;by_cases hin:(k:Int)∈sy.take i
  ·rw[dK hin];refine go ?_;exact aN (i+1) (by omega) (by omega) (hl:=⟨rfl,by show Value.bool true=_;rw[dK (show(k:Int)∈sy.take (i+1)by rw[htk];exact je _ hin)],by repeat (first|exact trivial|refine⟨rfl,?_⟩)⟩)
  ·rw[aR hin];refine go ?_;intro _ _ x2 hx2;rw[hx]at hx2;obtain rfl:x=x2:=Option.some.inj hx2;refine go ?_;refine aN (i+1) (by omega) (by omega) (hl:=⟨rfl,congrArg Value.bool (nO.2 ?_),by repeat (first|exact trivial|refine⟨rfl,?_⟩)⟩);rw[htk,dX,bM];exact⟨λe=>.inr e.symm,λe=>(e.resolve_left hin).symm⟩
 have hie:i=sy.length:=by omega
 subst hie;rw[bU];refine go ?_;intro _ _ x hx;refine go ?_;intro _ _ y hy;have hxg:=ji hx;have hyg:=ji hy;refine go ?_;refine gG (λh3=>?_) (λh3=>?_)
 ·refine go ?_;exact aN (k+1) (by omega) ⟨by omega,λt ht q=>by
   by_cases e:t=k
   ·subst e;rw[hxg,hyg]at q;exact h3 q.1
   ·exact hno t (by omega) q⟩
 refine go ?_;refine fq rfl (λh4=>?_) (λh4=>?_)
 rotate_left
 ·refine go ?_;exact aN (k+1) (by omega) ⟨by omega,λt ht q=>by
   by_cases e:t=k
   ·subst e;exact q.2 h4
   ·exact hno t (by omega) q⟩
 have hO:BC cl sy (s:Int)=sy.set s (k:Int):=by
  unfold BC;rw[aje (by omega) (by rw[hxg,hyg];exact h3) h4 hno];rfl
 refine go ?_;refine qI (b:=b') (o:=0+s*1) (cs:=sy.map (.int .i64)) (v:=.int .i64 (k:Int)) (cs':=(sy.set s (k:Int)).map (.int .i64)) (by rw[fo,uw,DD]) (by rw[bY];omega) ?_;have hsl:(sy.set s (k:Int)).length=sy.length:=pV;refine bn (A:=pt b' (.cells ((sy.set s (k:Int)).map (.int .i64)))) (fs:=[ai ae (.slice (some ⟨b',0,some 1⟩) sy.length sy.length) (sy.set s (k:Int))]) (by have:=uR (b:=b') (f:=1) (c:=sy.length) (xs:=sy.set s (k:Int)) (hf:=.inr rfl) (hc:=by rw[hsl];exact bT _);rw[hsl]at this;exact this) (h:=?_);rw[hO];refine go ?_;exact ah (.slice (some ⟨b',0,some 1⟩) sy.length sy.length) (hv:=rfl) (hp:=trivial)
theorem ajg{k:bD}{cl:List Int}{p:List Clue}{vh vs vr vc vu gh gc vn vl vp jR:Value}(hK:dH k)(hQ:gX k p)(hcl:cl.length=k.decl.symbols.length):
 bA Tryz.prog (.func 42) [.agg ⟨kZ k vh vs vr vc vu gh gc vn vl⟩,jR,.agg ⟨[vp]⟩] [] [] [ai ae jR cl,ai bO vp p,ai bI vc k.decl.aJ] (λv:Value=>v) (λ_=>[])
  (λv=>[ai ae v (dz (aK k) cl p)]) (λ_=>True):=by
 have hsy:=gX.oJ hQ;have hpl:=hQ.len;have hm:=hK.typ.lim.s1;generalize hmm:k.decl.symbols.length=m at *;have hc:=hcl;refine aM _ (aP 42) λB w0=>?_;refine aS (E:=ae) (v:=jR) (xs:=cl) (by simp) λac cc ec=>?_;subst ec;refine aS (E:=bO) (v:=vp) (xs:=p) (by simp) λJS cp ep=>?_;subst ep;refine go ?_;intro b3 b5 b12;refine Sg ae az.here ?_;refine bn (eX (b:=b3)) (h:=?_);refine bn (eX (b:=b5)) (h:=?_);refine go ?_;rw[hc];refine aU (λy:Nat×Value=>m - y.1) (λy=>[(8,.int .i64 (y.1:Int)),(7,y.2)]) (λy=>[ap ae y.2 (List.replicate y.1 (-1))]) (λ_=>[]) (λy=>y.1<=m) (0,.slice (some ⟨b12,0,some 0⟩) 0 0) (bR _) (hk:=by repeat (first|exact aI.nil|(apply aI.cons;(focus (repeat (first|exact az.here|apply az.there)))))) (body:=?_);rintro⟨j,v7⟩ hj;dsimp only at hj⊢;have hrl:(List.replicate j (-1:Int)).length=j:=Gn;refine go ?_;refine aA rfl (λh1=>?_) (λh1=>?_)
 ·refine go ?_;intro b20;refine go ?_;refine fB (xs:=List.replicate j (-1)) ae (-1) () (by omega) (next:=λad=>?_);rw[<- List.replicate_succ'];refine go ?_;exact aN (j+1,.slice ad ((List.replicate j (-1:Int)).length+1) ((List.replicate j (-1:Int)).length+1)) (by show m - (j+1)<m - j;omega) (by show j+1<=m;omega)
 have iR:j=m:=by omega
 subst iR;refine bn (A:=ap ae v7 (List.replicate j (-1))) (fs:=[ai ae v7 (List.replicate j (-1))]) gz (h:=?_);rw[show List.replicate j (-1)=fH cl (ed (aK k) (p.take 0))by rw[DK];show _=fH cl [];rw[NP,hc]];refine go ?_;generalize hmj:j=m at *;refine aU (λy:Nat×Value=>p.length - y.1) (λy=>[(9,.int .i64 (y.1:Int)),(7,y.2)]) (λ_=>[]) (λy=>[ai ae y.2 (fH cl (ed (aK k) (p.take y.1)))]) (λy=>y.1<=p.length) (0,v7) (bR _) (body:=?_);rintro⟨i,Kc⟩ hi;dsimp only at hi⊢;have hin:=Ka hsy i;have hgi:=(vz hc _ _ rfl hin).1;have hgl:=hgi.len;refine go ?_;refine aA rfl (λh1=>?_) (λh1=>?_)
 ·refine go ?_;refine bi bO (xs:=p) (k:=i) (next:=λ_ _ g (vg:Value) hg=>?_);have hgm:=aZ hg;obtain⟨c,L,r1,r2,r3,r4,r5,r6⟩:=hQ.right g hgm;obtain⟨cn,hcn⟩:=jA r1;have hcc:=r2;rw[hcn,kJ]at hcc;have Xc:=(bq.1 hcc).1;have hsc:=Dr (k:=k) (g:=g) r2;obtain⟨gcl,zJ,Ke⟩:=g;dsimp only at hcn r1 r2 hsc;subst hcn;refine go ?_;intro b10;refine bn (eX (b:=b10)) (h:=?_);refine go ?_;refine bi bI (xs:=k.decl.aJ) (k:=cn) (next:=λ_ _ c2 (_:Unit) hc2=>?_);rw[hcc]at hc2;obtain rfl:c=c2:=Option.some.inj hc2;refine go ?_;refine gG (λt1=>?_) (λt1=>?_)
  ·have hst:ed (aK k) (p.take (i+1))=ed (aK k) (p.take i):=by rw[J9 hg,hsc,aR t1];simp
   refine go ?_;exact aN (i+1,Kc) (by show p.length - (i+1)<p.length - i;omega) (by show i+1<=_;omega) (hF:=by dsimp only;rw[hst];repeat (first|exact Sub.nil|(apply Sub.cons;(focus (repeat (first|exact cB .. |apply cO))))))
  obtain⟨v0,hv0,F6,Xe⟩:=hsy _ hgm (by rw[hsc];exact dK t1);dsimp only at hv0;subst hv0;obtain⟨lJ,rfl⟩:=jA F6;have hst:ed (aK k) (p.take (i+1))=ed (aK k) (p.take i)++[(lJ:Int)]:=by rw[J9 hg,hsc,dK t1,if_pos rfl]
  refine go ?_;intro _ _ x hx;have hx0:(lJ:Int)=x:=by simpa using hx
  subst hx0;refine go ?_;intro _ _ z hz;have hzg:=ji hz;refine go ?_;refine aA rfl (λh2=>?_) (λh2=>?_)
  rotate_left
  ·have hsame:fH cl (ed (aK k) (p.take (i+1)))=fH cl (ed (aK k) (p.take i)):=by rw[hst,wD,Xj (by omega)]
   refine go ?_;exact aN (i+1,Kc) (by show p.length - (i+1)<p.length - i;omega) (by show i+1<=_;omega) (hF:=by dsimp only;rw[hsame];repeat (first|exact Sub.nil|(apply Sub.cons;(focus (repeat (first|exact cB .. |apply cO))))))
  refine go ?_;intro _ _ x hx;have hx0:(lJ:Int)=x:=by simpa using hx
  subst hx0;refine go ?_;refine ay (Xk (va:=.slice ac m cc) (vb:=Kc) (m:=m) (cl:=cl) (sy:=fH cl (ed (aK k) (p.take i))) (s:=lJ) hc (by omega) hgl (by omega)) (next:=λPs _=>?_);rw[Xi (by omega),<- wD,<- hst];refine go ?_;exact aN (i+1,Ps) (by show p.length - (i+1)<p.length - i;omega) (by show i+1<=_;omega)
 have hie:i=p.length:=by omega
 subst hie;rw[bU];refine go ?_;refine aU (λy:Nat×Value=>m - y.1) (λy=>[(11,.int .i64 (y.1:Int)),(7,y.2)]) (λ_=>[]) (λy=>[ai ae y.2 (fH cl (ed (aK k) p++(upTo' m).take y.1))]) (λy=>y.1<=m) (0,Kc) (bR _) (hF:=by dsimp only;rw[DK,gU];repeat (first|exact Sub.nil|(apply Sub.cons;(focus (repeat (first|exact cB .. |apply cO)))))) (body:=?_);rintro⟨q,v8⟩ hq;dsimp only at hq⊢;have F5:iP m (ed (aK k) p++(upTo' m).take q):=λx hx=>by
  rcases dX.1 hx with hx|hx
  ·exact wE hsy x hx
  ·exact(dF.ident m).fG x (BJ hx)
 have aji:=(vz hc _ _ rfl F5).1;have ajj:=aji.len;refine go ?_;refine aA rfl (λh1=>?_) (λh1=>?_)
 ·have hnx:(upTo' m)[q]? =some (q:Int):=by
   unfold upTo';rw[dm,pU (by omega)];rfl
  have hst:ed (aK k) p++(upTo' m).take (q+1)=(ed (aK k) p++(upTo' m).take q)++[(q:Int)]:=by rw[bZ hnx,List.append_assoc]
  refine go ?_;intro _ _ z hz;have hzg:=ji hz;refine go ?_;refine aA rfl (λh2=>?_) (λh2=>?_)
  rotate_left
  ·have hsame:fH cl (ed (aK k) p++(upTo' m).take (q+1))=fH cl (ed (aK k) p++(upTo' m).take q):=by rw[hst,wD,Xj (by omega)]
   refine go ?_;exact aN (q+1,v8) (by show m - (q+1)<m - q;omega) (by show q+1<=_;omega) (hF:=by dsimp only;rw[hsame];repeat (first|exact Sub.nil|(apply Sub.cons;(focus (repeat (first|exact cB .. |apply cO))))))
  refine go ?_;refine ay (Xk (va:=.slice ac m cc) (vb:=v8) (m:=m) (cl:=cl) (sy:=fH cl (ed (aK k) p++(upTo' m).take q)) (s:=q) hc (by omega) ajj (by omega)) (next:=λPs _=>?_);rw[Xi (by omega),<- wD,<- hst];refine go ?_;exact aN (q+1,Ps) (by show m - (q+1)<m - q;omega) (by show q+1<=_;omega)
 have hqe:q=m:=by omega
 subst hqe;have hgr:fH cl (ed (aK k) p++(upTo' q).take q)=dz (aK k) cl p:=by
  rw[ry (by rw[lZ];exact bT _)];unfold dz;rw[hc]
 rw[hgr];refine go ?_;exact ah v8 (hv:=rfl) (hp:=trivial)
theorem Pt{k:bD}{m:Nat}{t:List Int}{p:List Clue}{vh vs vr vc vu gh gc vn vl vp vt:Value}(hpl:p.length<=4096)(hcl:∀g∈p,0<=g.aL/\g.aL<k.decl.aJ.length)(hsy:oK (aK k) m p)(hm:m<=t.length):
 bA Tryz.prog (.func 24) [.agg ⟨kZ k vh vs vr vc vu gh gc vn vl⟩,vt,.agg ⟨[vp]⟩] [] [] [ai ae vt t,ai bO vp p,ai bI vc k.decl.aJ] (λv:Value=>.agg ⟨[v]⟩) (λ_=>[])
  (λv=>[ai bO v (bK (aK k) t p)]) (λ_=>True):=by
 refine aM _ (aP 24) λB w0=>?_;refine aS (E:=ae) (v:=vt) (xs:=t) (by simp) λuS ct et=>?_;subst et;refine aS (E:=bO) (v:=vp) (xs:=p) (by simp) λJS cp ep=>?_;subst ep;refine go ?_;intro b3 b5 b6 b7;refine bn (eX (b:=b3)) (h:=?_);refine bn (eX (b:=b5)) (h:=?_);refine go ?_;refine gH bO ?_;refine aU (λy:Nat×Value=>p.length - y.1) (λy=>[(8,.int .i64 (y.1:Int))]) (λy=>[pt b7 (.cells [y.2]),ap bO y.2 (bK (aK k) t (p.take y.1))]) (λ_=>[]) (λy=>y.1<=p.length) (0,.slice none 0 0) (bR _) (hk:=by repeat (first|exact aI.nil|(apply aI.cons;(focus (repeat (first|exact az.here|apply az.there)))))) (body:=?_);rintro⟨i,v7⟩ hi;dsimp only at hi⊢;have hrl:(bK (aK k) t (p.take i)).length=i:=by unfold bK;rw[bY,gT];omega
 refine go ?_;refine aA rfl (λh1=>?_) (λh1=>?_)
 rotate_left
 ·have hie:i=p.length:=by omega
  subst hie;rw[bU];refine bn (A:=ap bO v7 (bK (aK k) t p)) (fs:=[ai bO v7 (bK (aK k) t p)]) gz (h:=?_);refine go ?_;exact ah v7 (hv:=rfl) (hp:=trivial)
 refine go ?_;refine bi bO (xs:=p) (k:=i) (next:=λ_ _ g (vg:Value) hg=>?_);have hgm:=aZ hg;obtain⟨g0,g1⟩:=hcl g hgm;obtain⟨cn,hcn⟩:=jA g0;obtain⟨c,hcc⟩:∃c,k.decl.aJ[cn]? =some c:=⟨_,bP (by omega)⟩
 have hsc:=Dr (k:=k) (g:=g) (c:=c) (by rw[hcn,kJ];exact hcc);have htk:bK (aK k) t (p.take (i+1))=bK (aK k) t (p.take i)++[iQ (aK k) t g]:=by
  unfold bK;rw[bZ hg,fP,sQ]
 obtain⟨gcl,zJ,Ke⟩:=g;dsimp only at hcn g0 g1 hsc;subst hcn;dsimp only;have Xc:=(bq.1 hcc).1;refine go ?_;intro b9;refine go ?_;refine bi bI (xs:=k.decl.aJ) (k:=cn) (next:=λ_ _ c2 (_:Unit) hc2=>?_);rw[hcc]at hc2;obtain rfl:c=c2:=Option.some.inj hc2;refine go ?_;refine aA rfl (λt1=>?_) (λt1=>?_)
 ·have hs1:aK k (cn:Int)=true:=by rw[hsc];exact dK t1
  obtain⟨v0,hv0,F6,Xe⟩:=hsy _ hgm hs1;dsimp only at hv0;subst hv0;obtain⟨lJ,rfl⟩:=jA F6;refine go ?_;refine bi ae (xs:=[(lJ:Int)]) (k:=0) (h1:=by simp) (next:=λ_ _ x (_:Unit) hx=>?_);have hx0:(lJ:Int)=x:=by simpa using hx
  subst hx0;refine go ?_;intro _ _ z hz;have hzg:=ji hz;refine go ?_;intro Ox VU;refine bn VQ (h:=?_);have hrc:iQ (aK k) t ⟨(cn:Int),zJ,[(lJ:Int)]⟩=⟨(cn:Int),zJ,[z]⟩:=by
   unfold iQ;dsimp only;rw[hs1,if_pos rfl];show(⟨(cn:Int),zJ,[aB t (lJ:Int)]⟩:Clue)=_;rw[hzg]
  rw[hrc]at htk;refine fB bO (xs:=bK (aK k) t (p.take i)) ⟨(cn:Int),zJ,[z]⟩ (sI Ox 1) (by omega) (next:=λad=>?_);rw[<- htk];refine go ?_;exact aN (i+1,.slice ad ((bK (aK k) t (p.take i)).length+1) ((bK (aK k) t (p.take i)).length+1)) (by show p.length - (i+1)<p.length - i;omega) (by show i+1<=_;omega)
 have hrc:iQ (aK k) t ⟨(cn:Int),zJ,Ke⟩=⟨(cn:Int),zJ,Ke⟩:=by
  unfold iQ;dsimp only;rw[hsc,aR t1];rfl
 rw[hrc]at htk;refine go ?_;intro VU;refine go ?_;refine fB bO (xs:=bK (aK k) t (p.take i)) ⟨(cn:Int),zJ,Ke⟩ vg (by omega) (next:=λad=>?_);rw[<- htk];refine go ?_;exact aN (i+1,.slice ad ((bK (aK k) t (p.take i)).length+1) ((bK (aK k) t (p.take i)).length+1)) (by show p.length - (i+1)<p.length - i;omega) (by show i+1<=_;omega)
theorem Pv{k:bD}{p:List Clue}(h:gX k p):∀g∈p,0<=g.aL/\g.aL<k.decl.aJ.length:=λg hg=>by
 obtain⟨c,L,r1,r2,_⟩:=h.right g hg;have:=(bq.1 r2).1;exact⟨r1,by omega⟩
theorem ajk{k:bD}{cl:List Int}{p:List Clue}{vh vs vr vc vu gh gc vn vl vp jR:Value}(hS:nZ k)(hP:wK p)(hl:cl.length<9223372036854775808):
 bA Tryz.prog (.func 17) [.agg ⟨kZ k vh vs vr vc vu gh gc vn vl⟩,jR,.agg ⟨[vp]⟩] [] [] (ai ae jR cl::ai bO vp p::j6 k vh vs vr vc vu gh gc vn vl []) Xf (λ_=>[]) (Xg k p cl) (Xh k p cl):=by
 refine aM _ (aP 17) λB w0=>?_;dsimp only[j6];refine aS (E:=fF) (v:=vs) (xs:=k.decl.symbols) (by simp) λkY cs1 es1=>?_;subst es1;refine go ?_;intro b3 b5 b6;refine go ?_;refine ay (ai1 (k:=k) (p:=p) (vh:=vh) (vs:=.slice kY k.decl.symbols.length cs1) hS hP) (next:=λe he=>?_);refine go ?_;refine aA rfl (λhne=>?_) (λhz=>?_)
 ·refine go ?_;refine jE (c:=e=0) (f:=ai bO (.slice none 0 0) (bK (aK k) (dz (aK k) cl p) p)) hne ?_;refine jE (c:=e=0) (f:=ai ae (.slice none 0 0) (dz (aK k) cl p)) hne ?_;exact ah ⟨.slice none 0 0,.slice none 0 0,e⟩ (hv:=rfl) (hp:=⟨⟨he.1,he.2.1,λa b _=>absurd (he.2.2 a b) hne,λa b _=>absurd (he.2.2 a b) hne⟩,λ_=>⟨rfl,rfl⟩⟩)
 have hz:e=0:=ic.1 hz;subst hz;have hK:dH k:=Classical.byContradiction λh=>by have:=he.1 h;omega
 have hQ:gX k p:=Classical.byContradiction λh=>by have:=he.2.1 hK h;omega
 clear he;refine go ?_;refine ay (ajd (v:=jR) (xs:=cl) (n:=k.decl.symbols.length) hl) (next:=λb hb=>?_);cases b with
 |false=>
  have hno:¬vw k.decl.symbols.length cl:=λh=>by have:=hb.2 h;cases this
  refine go ?_;refine jE (c:=(1:Int)=0) (f:=ai bO (.slice none 0 0) (bK (aK k) (dz (aK k) cl p) p)) (by decide) ?_;refine jE (c:=(1:Int)=0) (f:=ai ae (.slice none 0 0) (dz (aK k) cl p)) (by decide) ?_;exact ah ⟨.slice none 0 0,.slice none 0 0,1⟩ (hv:=rfl) (hp:=⟨⟨λh=>absurd hK h,λ_ h=>absurd hQ h,λ_ _ _=>rfl,λ_ _ h=>absurd h hno⟩,λ_=>⟨rfl,rfl⟩⟩)
 |true=>
 have hC:=hb.1 rfl;refine go ?_;refine ay (ajg (k:=k) (cl:=cl) (p:=p) (vh:=vh) (vs:=.slice kY k.decl.symbols.length cs1) hK hQ hC.len) (next:=λvs2 _=>?_);have hgc:=(FC hC.len (gX.oJ hQ)).p.len;have hpl:=hQ.len;refine go ?_;refine ay (Pt (k:=k) (m:=k.decl.symbols.length) (t:=dz (aK k) cl p) (p:=p) (vh:=vh) (vs:=.slice kY k.decl.symbols.length cs1) (by omega) (Pv hQ) (gX.oJ hQ) (by omega)) (next:=λXl _=>?_);refine go ?_;refine jP (c:=(0:Int)=0) (f:=ai bO Xl (bK (aK k) (dz (aK k) cl p) p)) (by simp) ?_;refine jP (c:=(0:Int)=0) (f:=ai ae vs2 (dz (aK k) cl p)) (by simp) ?_;exact ah ⟨Xl,vs2,0⟩ (hv:=rfl) (hp:=⟨⟨λh=>absurd hK h,λ_ h=>absurd hQ h,λ_ _ h=>absurd hC h,λ_ _ _=>rfl⟩,λh=>absurd rfl h⟩)
