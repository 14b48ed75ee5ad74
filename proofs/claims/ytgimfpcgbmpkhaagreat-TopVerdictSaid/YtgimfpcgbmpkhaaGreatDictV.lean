/-
  Part Dict.
-/
import Derived.KernelRfl
set_option linter.all false
variable{p:Prop}
def bh(h:p:=by
 refine gH ?_ ?_<;>intro g3
 .refine aK ?_ ?_<;>intro g4
  .exfalso;omega
  refine go ?_;intro j3;refine mI (A:=pt j3 (.cells [iV (s:Int),iV (-1)])) (fs:=[ay aj (.slice (some ⟨j3,0,some 0⟩) 2 2) [(s:Int),(-1)]]) (uJ (b:=j3) (f:=0) (c:=2) (xs:=[(s:Int),(-1)])) (h:=?_);refine J6 aj (.slice (some ⟨j3,0,some 0⟩) 2 2) (xs:=[(s:Int),(-1)]) (λCV hzz=>?_);obtain rfl:=ahE hzz;refine go ?_;refine aeG aj (aF:=y8 (vL L s)) (y8 [(s:Int),(-1)]) (by rw[ahs,htp];simp;omega) (λv'=>?_);have e1:vw L s=(s:Int):=by unfold vw;grind
  have e2:vG L s=(-1):=by unfold vG;grind
  rw[ahv,show vL L s++[(s:Int),(-1)]=vL L (s+1)by rw[aes,e1,e2]];refine go ?_;exact aW (s+1,v') (by show L.length+1 - (s+1)<L.length+1 - s;omega) (by show s+1<=_;omega)
 .refine go ?_;intro _ _ y hy;cases y with
  |true=>
   refine go ?_;intro j3;refine mI (A:=pt j3 (.cells [iV (s:Int),iV ((s:Int)+1)])) (fs:=[ay aj (.slice (some ⟨j3,0,some 0⟩) 2 2) [(s:Int),((s:Int)+1)]]) (uJ (b:=j3) (f:=0) (c:=2) (xs:=[(s:Int),((s:Int)+1)])) (h:=?_);refine J6 aj (.slice (some ⟨j3,0,some 0⟩) 2 2) (xs:=[(s:Int),((s:Int)+1)]) (λCV hzz=>?_);obtain rfl:=ahE hzz;refine go ?_;refine aeG aj (aF:=y8 (vL L s)) (y8 [(s:Int),((s:Int)+1)]) (by rw[ahs,htp];simp;omega) (λv'=>?_);have e1:vw L s=(s:Int):=by unfold vw;grind
   have e2:vG L s=((s:Int)+1):=by unfold vG;grind
   rw[ahv,show vL L s++[(s:Int),((s:Int)+1)]=vL L (s+1)by rw[aes,e1,e2]];refine go ?_;exact aW (s+1,v') (by show L.length+1 - (s+1)<L.length+1 - s;omega) (by show s+1<=_;omega)
  |false=>
   refine aK ?_ ?_<;>intro g4
   .refine go ?_;intro j3;refine mI (A:=pt j3 (.cells [iV ((s:Int)+1),iV (-1)])) (fs:=[ay aj (.slice (some ⟨j3,0,some 0⟩) 2 2) [((s:Int)+1),(-1)]]) (uJ (b:=j3) (f:=0) (c:=2) (xs:=[((s:Int)+1),(-1)])) (h:=?_);refine J6 aj (.slice (some ⟨j3,0,some 0⟩) 2 2) (xs:=[((s:Int)+1),(-1)]) (λCV hzz=>?_);obtain rfl:=ahE hzz;refine go ?_;refine aeG aj (aF:=y8 (vL L s)) (y8 [((s:Int)+1),(-1)]) (by rw[ahs,htp];simp;omega) (λv'=>?_);have e1:vw L s=((s:Int)+1):=by unfold vw;grind
    have e2:vG L s=(-1):=by unfold vG;grind
    rw[ahv,show vL L s++[((s:Int)+1),(-1)]=vL L (s+1)by rw[aes,e1,e2]];refine go ?_;exact aW (s+1,v') (by show L.length+1 - (s+1)<L.length+1 - s;omega) (by show s+1<=_;omega)
   .exfalso;omega):p:=h
def bj(h:p:=by
 have hL:=adP (k:=k) (r:=r) (fi:=(iG r).toNat) (v1:=w.1) (v2:=w.2);rw[hfi]at hL;refine go ?_;refine gP b9 ?_;refine gP b10 ?_;refine gP b11 ?_;refine fH hL (next:=λyl _=>?_);have hL1:=adR (bk:=yl.1) (bf:=yl.2.1) (br:=yl.2.2.1) (bp:=yl.2.2.2) (k:=k) (p:=p) (r:=r) (fi:=(iG r).toNat) (ls:=ls) (v1:=w.1) (v2:=w.2) hS hpl qJ hls;rw[hfi]at hL1;refine go ?_;refine oz (λv:ah=>[pt b4 (.cells (yK (yO k p) vv (.slice an k.aH.length cn) v)),ap qH v (oD k p j)]) K3 (h:=?_);refine Ki (Z:=Nat) (λ(s:ae rZ) (x:LA)=>(sH r j s x,Out.normal)) (λs=>[Ez λv:ah=>[pt b4 (.cells (yK (yO k p) vv (.slice an k.aH.length cn) v)),ap qH v s]]) (λvs s=>s=oD k p j++((vs.map rz).filter λx=>decide (jS r<=x.2.1.length)).map (mh r j)) (oD k p j) _ (λx z=>[pt z (.cells [x.2.1.2,x.2.2.2])]) (by simp) (λvs s x rest hs _ _=>by
  have:=Fs r j (vs++[x]) (oD k p j);have h2:=Fs r j vs (oD k p j);rw[hs];show sH r j _ x=_;unfold sH;rw[bZ,ze,bZ,kg];by_cases h:jS r<=x.2.1.1.length
  .rw[if_pos h,List.filter_cons_of_pos (by exact eB h)];simp
  .rw[if_neg h,List.filter_cons_of_neg (by rw[lV];exact h)];simp) hL1 (by intro s x lo o B w0;dsimp only[KC,EP,List.cons_append,List.nil_append,List.zip_cons_cons,List.zip_nil_left,List.reverse_cons,List.reverse_nil];refine go ?_;intro b14;refine go ?_;exact zI b14 rfl) ?_ ?_ (λ_ _=>trivial)
 .rintro vs s ⟨at_,⟨cells,wc⟩,⟨vals,wv⟩⟩ rest z lo L B w0 hs hX;have hx:(at_,cells,vals)∈lY p r ls:=by rw[<- hX];exact cO.2 ⟨(at_,(cells,wc),(vals,wv)),by simp,rfl⟩
  have hpre:=adW hf hQ hsl hx;have hml:s.length<=65536:=by
   have h1:=zh (λx:Nat×ae Int×ae Int=>decide (jS r<=x.2.1.length)) (vs.map rz);have h2:=congrArg List.length hX;have h3:=hlf _ (aV hls);have h4:=Pf (p:=p) (r:=r) (ls:=ls);rw[bi,fu]at h2;rw[bi]at h1;rw[hs,fu,bi];omega
  have hcc:(mh r j (at_,cells,vals)).cells=cells:=by unfold mh nR;dsimp only;(repeat' split)<;>rfl
  have hrr:(mh r j (at_,cells,vals)).runs=(nR r cells vals).runs:=rfl;dsimp only[EP,List.cons_append,List.nil_append,List.reverse_cons,List.reverse_nil];refine gF aj wc cells λak ck ek=>?_;subst ek;have hmk:=hM.ok cells vals hpre (.slice ak cells.length ck) wv w.1 w.2;refine rW (h:=λv=>?_);refine aK ?_ ?_<;>intro h5
  .have hadd:sH r j s (at_,(cells,.slice ak cells.length ck),(vals,wv))=s:=by unfold sH;rw[if_neg (by show¬jS r<=cells.length;omega)]
   rw[hadd];refine go ?_;refine oz (λv:ah=>[pt b4 (.cells (yK (yO k p) vv (.slice an k.aH.length cn) v)),ap qH v s]) v (h:=?_);exact pE () rfl trivial trivial
  have hadd:sH r j s (at_,(cells,.slice ak cells.length ck),(vals,wv))=s++[mh r j (at_,cells,vals)]:=by unfold sH;rw[if_pos (by show jS r<=cells.length;omega)];rfl
  rw[hadd];refine gC hmk λvq _=>?_;refine go ?_;intro b15;refine go ?_;intro b98;refine fA (ay aj (.slice ak cells.length ck) (mh r j (at_,cells,vals)).cells) (λw hw=>by rw[hcc];exact hw (ay aj (.slice ak cells.length ck) cells) (by simp)) ?_;refine fA (ay aj vq (mh r j (at_,cells,vals)).runs) (λw hw=>hw (ay aj vq (nR r cells vals).runs) (by simp)) ?_;refine jy (xs:=s) qH (mh r j (at_,cells,vals)) (.slice ak cells.length ck,vq) (by omega) (next:=λad=>?_);refine go ?_;refine oz (λv:ah=>[pt b4 (.cells (yK (yO k p) vv (.slice an k.aH.length cn) v)),ap qH v (s++[mh r j (at_,cells,vals)])]) _ (h:=?_);exact pE () rfl trivial trivial
 .intro rr xs hX;rw[Fs,hX];have hnew:oD k p j++((lY p r ls).filter λx=>decide (jS r<=x.2.1.length)).map (mh r j)=oD k p (j+1):=by
   rw[Pe hr];unfold qE Da;rw[fK hls]
  rw[hnew];dsimp only[List.cons_append,List.nil_append];refine rW (h:=λv=>?_);refine go ?_;refine S9 (rs:=rs) (r:=rr) (h:=?_);exact J4 (j+1,v,rr::rs) (by show k.decl.rules.length - (j+1)<k.decl.rules.length - j;omega) (by show j+1<=_;omega)):p:=h
def bt(h:p:=by
 refine go ?_;refine ED ?_;refine go ?_;refine CK (false,(xs.take k).map nm) (hv:=rfl) (hp:=⟨(λh=>by cases h),λ_ hn=>?_⟩);rw[(tV hx).1]at hm;have hsub:(aC.map (·.1)++(xs.take k).map nm++[nm x]).Nodup:=by
  have e:xs.map nm=(xs.take k).map nm++nm x::(xs.drop (k+1)).map nm:=by
   conv=>lhs;rw[<- l5 k xs]
   rw[bZ];congr 1;rw[mX (bz.1 hx).1,iX,(bz.1 hx).2]
  rw[e,<- gp]at hn;rw[j5]at hn⊢;exact⟨hn.1,by simp,λa ha c hc=>hn.2.2 a ha c (by rw[eG.1 hc];exact eX ..)⟩
 rw[j5]at hsub;exact hsub.2.2 _ hm _ (eG.2 rfl) rfl):p:=h
def bw(h:p:=by
 refine gC hTS λ_ _=>?_;refine aK ?_ ?_<;>intro g1
 .refine go ?_;exact aW (k+1,aC) (by show prog.length - (k+1)<prog.length - k;omega) ⟨by show k+1<=_;omega,hkv⟩
 have h12:i.op=12:=j6.1 g1;obtain⟨hs1,hs2⟩:=hsk h12;have ha0:0<=i.a:=hts.aoP h12;have akW:(y5 (ty (k+1))).length=33:=by rw[bi,akT hbk1]
 have as3:avV ty (upd ((k:Int)+1+i.a) (.agg ⟨y5 (ty (k+1))⟩) aC):=λj v hj=>by
  rw[Bd]at hj;split at hj
  .rename_i e;cases hj;rw[show j=k+1+i.a.toNat by omega,hs2]
  .exact hkv j v hj
 have hal:i.a<=40000000:=by omega
 refine go ?_;refine EI (b:=bm) (aC:=aC) Dj ((k:Int)+1+i.a) ?_;cases hlk2:dM ((k:Int)+1+i.a) aC with
 |some v=>
  rw[avm hlk2];obtain rfl:v=.agg ⟨y5 (ty (k+1))⟩:=by
   rw[<- hs2];exact hkv _ v (by rw[show((k+1+i.a.toNat:Nat):Int)=(k:Int)+1+i.a by omega];exact hlk2)
  refine go ?_;intro b13;refine go ?_;refine avU (b:=b13) (vs:=y5 (ty (k+1))) rfl akW rfl rfl .here rfl ?_;refine go ?_;refine anE (b:=b13) akW rfl .here rfl rfl ?_;refine anE (b:=b5) (cs:=y5 (ty (k+1))) akW rfl (by repeat (first|exact aD.here|apply aD.there)) rfl rfl ?_;refine go ?_;refine(dx rfl rfl (NQ (xs:=tyZ (ty (k+1))) (n:=33) (e:=5) rfl rfl (by kernel_rfl) (by kernel_rfl) (by kernel_rfl) (akT (hbk1)) (by kernel_rfl))).h ?_;refine go ?_;refine anE (b:=b5) (cs:=y5 (ty (k+1))) akW rfl (by repeat (first|exact aD.here|apply aD.there)) rfl rfl ?_;refine go ?_;refine vX (b:=bm) (v:=.agg ⟨y5 (ty (k+1))⟩) (aC:=aC) Dj ((k:Int)+1+i.a) ?_;refine go ?_;exact aW (k+1,upd ((k:Int)+1+i.a) (.agg ⟨y5 (ty (k+1))⟩) aC) (by show prog.length - (k+1)<prog.length - k;omega) ⟨by show k+1<=_;omega,as3⟩
 |none=>
  rw[avn hlk2];refine go ?_;intro b13;refine go ?_;refine anE (b:=b5) (cs:=y5 (ty (k+1))) akW rfl (by repeat (first|exact aD.here|apply aD.there)) rfl rfl ?_;refine go ?_;refine vX (b:=bm) (v:=.agg ⟨y5 (ty (k+1))⟩) (aC:=aC) Dj ((k:Int)+1+i.a) ?_;refine go ?_;exact aW (k+1,upd ((k:Int)+1+i.a) (.agg ⟨y5 (ty (k+1))⟩) aC) (by show prog.length - (k+1)<prog.length - k;omega) ⟨by show k+1<=_;omega,as3⟩):p:=h
def bM(h:p:=by repeat (first|exact aJ.nil|(apply aJ.cons;(focus (repeat (first|exact aD.here|apply aD.there)))))):p:=h
def bX(h:p:=by refine go ?_;exact aW (s+1,v') (by show L.length+1 - (s+1)<L.length+1 - s;omega) (by show s+1<=_;omega)):p:=h
def ca(h:p:=by
 have Er:Aj size (k+1) (ev l x) h=some xs:=hxs;simp only[aR.run,hx,Er,hs];have e1:pg size m (.slice (some ⟨b,o,f⟩) m m) h=some old:=hold;show∃h',(cond (Nat.ble (Nat.mul (m+(k+1)) bytes) small&&Nat.ble (Nat.mul (m+(k+1)) size) small&&Nat.ble (m+(k+1)) small) _ _)=_/\_;rw[hc];show∃h',(cond (Nat.ble (m+(k+1)) m) _ _)=_/\_;rw[hlt];simp only[cond,e1];rcases hf with rfl|rfl
 .refine⟨_,rfl,?_⟩;exact⟨rfl,λi hi _=>by rw[IH.jD,if_neg (by omega)],⟨yY _,by rw[IH.jD,if_pos rfl,kR]⟩,λ_=>rfl⟩
 .cases size with
  |zero=>
   refine⟨_,rfl,?_⟩;exact⟨rfl,λi hi _=>by rw[IH.jD,if_neg (by omega)],⟨yY _,by rw[IH.jD,if_pos rfl,kR]⟩,λ_=>rfl⟩
  |succ j=>
   have hj:Nat.beq (Nat.succ j) (j+1)=true:=FI _;refine⟨(h.kill b).new (.cells (old++xs)),?_,?_⟩
   .show cond (Nat.beq (Nat.succ j) (j+1)) _ _=_;rw[hj,kR];rfl
   .exact⟨rfl,λi hi hb=>by rw[IH.jD,if_neg (by show i≠h.next;omega),IH.uD,if_neg hb],⟨yY _,by rw[IH.jD];exact if_pos rfl⟩,λhl=>by rw[IH.Jg,IH.Ap];omega⟩):p:=h
def cj(h:p:=by
 refine aZ ?_;have:xs=ys:=by
  apply iQ;intro j;by_cases hj:j<k
  .exact hsame j hj
  .rw[fT (by omega),fT (by omega)]
 rw[eB this];rfl):p:=h
def cm(h:p:=by
 refine go ?_;refine aW (k+1) (by omega) ⟨by omega,λj hj=>?_⟩;by_cases e:j=k
 .subst e;rw[hx,hy,h3]
 .exact hsame j (by omega)):p:=h
def cw(h:p:=by
 refine aK ?_ ?_<;>intro h5
 .refine go ?_;exact ou () (hv:=by rw[if_pos (by omega)];rfl) (hp:=trivial)
 refine gC (av1 (m:=m) (prog:=prog) (C:=(C:Int)) (S:=(S:Int)) (vv:=vv) (vn:=vn) (vt:=vt) (vi:=.slice a4 prog.length c4) (vg:=vg) (vk:=vk) (r0:=r0) (r1:=r1) (b:=b) (aG:=at_) (bR:=bR) (bT:=bT) (K:=K1) (st:=st) (i:=i) (tl:=prog.drop (at_+1)) hRS hdc (by omega) hr) λy hy=>?_;obtain⟨K2,hy2⟩:=av3 (K:=K) (fuel:=fuel) hk1 (by rw[hcv];omega) hsl hy;rcases hy2 with⟨q1,q2,q3⟩|q
 rotate_left
 .omega
 rw[hcv]at q1;refine go ?_;refine aW (y,K2) q3 q2 (hl:=⟨?_,by repeat (first|exact trivial|refine⟨rfl,?_⟩)⟩);exact congrArg (Value.int .i64) (show fuel - ((K:Int) - K1) - C=fuel - ((K:Int) - K2)by omega)):p:=h
def cF(h:p:=by
 rw[bQ,bQ,bP]at fQ;refine gC fQ λ_ _=>?_;cases hst:(step s x).2 with
 |true=>
  have hs1:step s x=((step s x).1,true):=Prod.ext rfl hst;refine go ?_;refine aW (j+1,bS++[x],(step s x).1) (by show ls.length - (j+1)<ls.length - j;omega) ⟨by show j+1<=_;omega,hok _ s _ _ hos hX hst,?_,λrest=>?_⟩
  .show(bS++[x]).map rz=_;rw[bZ,kg,iW];exact hnx.symm
  .show cz step s0 (bS++[x]++rest)=_;rw[gp,hrun];show cz step s (x::rest)=_;rw[cz,hs1]
 |false=>
  have hs1:step s x=((step s x).1,false):=Prod.ext rfl hst;have hr:=hrun (x::C9 (Dx p r ls (j+1)));rw[cz,hs1]at hr;dsimp only at hr;refine go ?_;exact gQ (bS++x::C9 (Dx p r ls (j+1))) hX (hk:=by rw[hr];first|exact aJ.all _|exact aJ.self _ _)):p:=h
def cG(h:p:=by
 refine M7 hb _ ?_;rintro o a h ⟨hd,w2,y,rfl,rfl,hn,s2,hp⟩;refine⟨tq r1,s2.get.1,hd,?_⟩;have fin:∀o',ow o'=ow (out y)->mJ r1 o'=mJ r1 (out y)->Left B w (λy:Y=>.bool (ow (out y))) (λy=>pt lo (.loop (mJ r1 (out y)))::k1' y) fs pr (.ok (.bool (ow (out y)))) none (w2.h.set lo (.loop (mJ r1 (out y)))):=λo' _ _=>
  ⟨rfl,_,y,rfl,s2.write,rfl,hp⟩
 cases ho:out y with
 |normal=>have:=fin .normal (by rw[ho]) (by rw[ho]);rw[ho]at this;exact this
 |exit j=>have:=fin (.exit j) (by rw[ho]) (by rw[ho]);rw[ho]at this;exact this
 |ret=>have:=fin .ret (by rw[ho]) (by rw[ho]);rw[ho]at this;exact this
 |panic ch=>rw[ho]at hn;exact hn.elim):p:=h
def cH(h:p:=by refine gB 137 λB w0=>?_;refine go ?_;intro b5 b6;refine gC (aew (bT:=bT) (t:=1::t) (x:=1) (by simp only[rJ]at *;omega)) λ_ _=>?_;refine gC (aew (bT:=bT) (t:=t) (x:=1) (by simp only[rJ]at *;omega)) λ_ _=>?_;refine gC (ahK (bT:=bT) (t:=t) (x:=1) (by simp only[rJ]at *;omega)) λ_ _=>?_;exact dH):p:=h
def cI(h:p:=by
 refine gH ?_ ?_<;>intro g2
 rotate_left
 .exfalso;omega
 exact dH):p:=h
def cJ(h:p:=by
 have hn0:0<E.n:=by
  rcases WX E.n with h0|h0
  .rw[h0]at hj;omega
  .exact h0
 have hd:j/E.n<aF.length:=by rw[Nat.div_lt_iff_lt_mul hn0];exact hj
 have hmod:=Nat.mod_lt j hn0;have hpk:=bN hd;have hu:(E.pat (aF[j/E.n]).1 (aF[j/E.n]).2)[j%E.n]? =some ((E.pat (aF[j/E.n]).1 (aF[j/E.n]).2)[j%E.n]'(by rw[E.len];exact hmod)):=bN _;have h1:=(q3 (j/E.n) _ hpk).1 (j%E.n) _ hu;have h2:=yC hpk hu;have Cy:j/E.n*E.n+j%E.n=j:=by rw[Nat.mul_comm];exact Nat.div_add_mod j E.n
 rw[pR,Cy]at h1;rw[Cy]at h2;rw[h1,h2]):p:=h
def cL(h:p:=by
 refine gC fQ λ_ _=>?_;rw[hd,cz]at hrun;refine go ?_;cases hst:step s ((k:Int),_)with
 |mk s' b=>
  have hst:=hst;rw[hst]at hrun;cases b with
  |true=>
   refine go ?_;refine aW (k+1,s') (by show g.cells.length - (k+1)<g.cells.length - k;omega) ⟨by show k+1<=_;omega,?_,hrun⟩;have:=hok _ s _ _ hos hX (by rw[hst]);rw[hst]at this;rw[show(bK g).take (k+1)=(bK g).take k++[_]from by rw[rP,hsp];rfl];rw[hso];exact this
  |false=>
   refine go ?_;exact gQ (bK g) rfl (hk:=by rw[<- hrun];exact aJ.all _)):p:=h
def cM(h:p:=by refine go ?_;exact Oj () ⟨by omega,λh=>by omega,λh=>by omega⟩):p:=h
def cN(h:p:=by refine go ?_;exact gQ false (λh=>by cases h)):p:=h
def cP(h:p:=by refine aZ ?_;rw[dA (λe=>h3 (by rw[e,hy]at hx;cases hx;rfl))];rfl):p:=h
def cQ(h:p:=by refine go ?_;refine jy (xs:=(k.decl.symbols.take j).map (·.value)) aj s.value () (by omega) (next:=λad=>?_);rw[<- htk];refine go ?_;exact aW (j+1,.slice ad (((k.decl.symbols.take j).map (·.value)).length+1) (((k.decl.symbols.take j).map (·.value)).length+1)) (by show k.decl.symbols.length - (j+1)<k.decl.symbols.length - j;omega) (by show j+1<=_;omega)):p:=h
def cR(h:p:=by
 have:=h4 (j+1) g e hg he;rw[avt];have hle:o0+P.cellsOf f.type<=g.offset:=by
  have hj:(fs.map (·.offset))[j]? =some g.offset:=by grind
  rw[h3]at hj;have hs:(fs.map λf=>P.cellsOf f.type)[j]? =some (P.cellsOf g.type):=by grind
  exact(Cw _ ([]:ae ah) (o0+P.cellsOf f.type) j _ _ hj hs).2
 grind):p:=h
def cS(h:p:=by
 refine fH (atH (C:=k.grid.cells.length) (S:=k.decl.symbols.length) (fuel:=fuel) (vv:=vv2) (vn:=vn) (vt:=vt) (vi:=vi) (V:=[iV 0,iV 0,iV 220]) hok hps hC hSy hF arQ hrun (by omega) (by omega) (by rw[if_pos hfK])) (next:=λ_ _=>?_);refine aK ?_ ?_<;>intro q7
 .exact dH
 .exfalso;omega):p:=h
def cT(h:p:=by exact⟨by omega,c,a3,by unfold iG;rw[if_neg (by omega),if_neg (by omega),if_neg (by omega)];exact a5,hcp,by omega,by omega,by omega⟩):p:=h
def cU(h:p:=by refine aZ ?_;rw[dA (λe=>h1 (by rw[e]))];rfl):p:=h
def cV(h:p:=by
 obtain⟨dst,op,type,pos,after,guard⟩:=o;simp only[cop]at hc;repeat' split at hc
 all_goals first
  |contradiction
  |(cases hc;done)
  |(done)
  |(simp only[lT,reduceCtorEq,and_false,exists_false]at hc;done)
  |(obtain⟨rfl,rfl⟩:=hc
    exact⟨_,rfl,rfl,rfl⟩)):p:=h
def cW(h:p:=by intro vk;refine gB 150 λB w0=>?_;refine gC (acO (C:=C) (S:=S) (vv:=vv) (vn:=vn) (vt:=vt) (vi:=vi) (vg:=vg) (r0:=r0) (r1:=r1) (at_:=at_) (br:=br) (en:=en) (st:=st) (x:=x) (by first|omega|(simp<;>omega))) λv0 _=>?_;refine go ?_;exact gQ v0 trivial):p:=h
def da(h:p:=by obtain⟨S,h1,h2,h3⟩:=s.own;exact h w ⟨s.agree,s.le,s.fF,⟨S,⟨[],S,.inl ⟨rfl,rfl,rfl⟩,h1,rfl⟩,h2,h3⟩,s.facts⟩):p:=h
def dc(h:p:=by refine go ?_;refine(dx rfl rfl (NQ (xs:=tyZ ([])) (n:=33) (e:=5) rfl rfl (by kernel_rfl) (by kernel_rfl) (by kernel_rfl) (akT (bI _)) (by kernel_rfl))).h ?_;refine go ?_;exact axC rfl rfl rfl (by repeat (first|exact aD.here|apply aD.there))):p:=h
def de(h:p:=by obtain⟨rfl,rfl⟩:=hr;rw[ha]at hx;refine Good.same hW ?_ hx;obtain⟨fn',f',c',h1,_,_,e⟩:=hx.Cn;cases h1;simp[execOp,e]):p:=h
def dg(h:p:=by
 rcases WX (aF.length*E.n)with h0|h0
 .exact .inr h0
 .left;have h1:=hcells (aF.length*E.n - 1) (by omega);have hx0:(dP E aF)[aF.length*E.n - 1]? =some ((dP E aF)[aF.length*E.n - 1]'(by omega)):=bN _;rw[hx0]at h1;have:=(bz.1 h1).1;omega):p:=h
def dj(h:p:=by
 intro cl hcl;obtain⟨dd,op,ty,ps,af,gd⟩:=o;simp only at hcl;subst hcl;obtain⟨callee,args,ats⟩:=cl;cases callee with
 |value f=>simp only[cop,ax]at iK;rw[<- iK]at hl;cases hl
 |invoke x n=>simp[cop]at iK
 |builtin bb=>simp[cop]at iK):p:=h
def dl(h:p:=by have hle:∀f∈E.fs a y,f.p w':=λf hf=>kF.facts f (hF.mem f hf);refine put w' _ E.n (cells.drop o) (by grind) (λk z hk=>?_) hle (.inr rfl) S hp;obtain⟨y',u1,u2⟩:=hel k z hk;exact⟨y',(by grind),λf hf=>f.mono AO (u2 f hf)⟩):p:=h
def dr(h:p:=by show cz step s0 (bS++[x]++rest)=_;rw[gp,hrun];show cz step s (x::rest)=_;rw[cz,hs1]):p:=h
def dy(h:p:=by rw[show(aG:Int)+1=((aG+1:Nat):Int)by omega];refine go ?_;refine gQ ⟨w1,st,r0,r1,aG+1, -1,decide (((aG+1:Nat):Int)=(prog.length:Int))⟩ (acr (by omega) (by omega) (by first|omega|(simp only[rJ]at *;omega)) (by rw[hnx];exact h))):p:=h
def dF(h:p:=by
 rename_i kt et hu;cases hc;simp only[aR.run]at hr;split at hr
 .rename_i h2 hh;obtain⟨rfl,rfl⟩:=hr;obtain⟨w',r1,r2,r3⟩:=XL hu hh hm hk hx hW;exact⟨.skip,w',β,undef,XA r1,.inr ⟨rfl,rfl⟩,.eY _,r2,r3⟩
 .cases hr):p:=h
def dJ(h:p:=by
 refine aK ?_ ?_<;>intro q7
 .exfalso;omega
 .refine gH ?_ ?_<;>intro q8
  .exact absurd rfl q8
  refine aZ ?_;show Value.bool (decide (fuel - (K:Int)=fuel - ((cc:Int) - ((cc:Int) - K))))=Value.bool true;rw[eB (by omega)]):p:=h
def dN(h:p:=by exact pE () rfl trivial trivial):p:=h
def eb(h:p:=by
 have hn:(step so.1 x).2=.normal:=by
  cases e:(step so.1 x).2 with
  |normal=>rfl
  |_=>rw[e]at h;cases h
 grind):p:=h
def ed(h:p:=by
 show ab7 _ (vG line s) bs=_↔_;rw[hm,asc];obtain⟨m,l,h1,h2⟩:=aut bs (j+1) (by omega);have:CS j (true::bs)=CS (j+1) bs:=rfl;rw[this,h1];constructor
 .intro h;omega
 .intro h;injection h with h _;omega):p:=h
def ee(h:p:=by
 intro l;induction l with
 |nil=>intro m hm _;exact hm
 |cons s l ih=>
  intro m hm hl;rw[vI];refine ih _ (QI hm ?_) (λt ht=>hl t (fP _ ht));have:=CU (hl s (eX ..));rw[avw];exact Mk (by omega) (by omega)):p:=h
def ef(h:p:=by
 refine VI ?_;have:=hty.read;unfold ab2 at this;rw[List.filterMap_eq_nil_iff]at this;obtain⟨j,hj⟩:=gT hr;have:=this (r,j) (xQ.2 hj);cases h:(iU r.kind).read with
 |true=>rfl
 |false=>simp[h]at this):p:=h
def eo(h:p:=by exact .of_steps (t1.trans (.one hs)) (ih ops cZ hv rest (i::done) (i::S') om hds β0 h0 w0 lF kE cs0 β' w' b _ df k cs ρ' hG hdom hcx hI2 r4 (by rw[yj];exact hcs.mono t0) (by rw[ym];exact hro))):p:=h
def ew(h:p:=by refine go ?_;exact J4 (k+1,rs) (by show g.length - (k+1)<g.length - k;omega) (by show k+1<=_;omega) (ha:=by dsimp only;rw[e];repeat (first|exact dz.nil|apply dz.cons|exact dz.self|exact dz.app))):p:=h
def ez(h:p:=by refine gC (ade (C:=C) (S:=S) (vv:=vv) (vn:=vn) (vt:=vt) (vi:=vi) (vg:=vg) (r0:=r0) (r1:=r1) (at_:=at_) (br:=br) (en:=en) (st:=st) (x:= -1) (by omega)) λv1 _=>?_;refine go ?_;exact gQ v1 trivial):p:=h
def eA(h:p:=by cases r.set.toNat.testBit (aU grid a).toNat<;>cases r.set.toNat.testBit (aU grid b).toNat<;>cases r.other.toNat.testBit (aU grid a).toNat<;>cases r.other.toNat.testBit (aU grid b).toNat<;>simp):p:=h
def eC(h:p:=by
 have h1:(bW (iL (gD (bK g)) p.2 (fO.take (eT g)))).length=(iL (gD (bK g)) p.2 (fO.take (eT g))).length:=(Ca _ _).length_eq;have h2:=OX (gD (bK g)) p.2 (fO.take (eT g));have h3:=EN g
 grind):p:=h
def eD(h:p:=by
 have uG:zw.pending=none:=uG;have hto:(zw.pending.map Item.code).toList++k=k:=by rw[uG];rfl
 rw[hto]at hst;exact⟨.normal,a1,_,β3,_,tm,vR,cs,l3,y1,hE.trans y2,hA3,hcs,e4,hst⟩):p:=h
def eE(h:p:=by
 show cond (Nat.ble h.low i) h.low i=_;cases hb:Nat.ble h.low i with
 |true=>have:=pQ hb;simp;omega
 |false=>have:¬h.low<=i:=λhh=>by rw[LZ hh]at hb;cases hb
         simp;omega):p:=h
def eI(h:p:=by
 rw[q2.cells.je,qw,qM,if_pos (by rw[uo];omega)];congr 1;apply iQ;intro j;rw[wP];by_cases hj:j<aF.length*E.n
 .rw[if_pos hj,rH];exact hcells j hj
 .rw[if_neg hj,fT (by omega)]):p:=h
def eJ(h:p:=by refine go ?_;exact gQ false ⟨(λh=>by cases h),λhG=>absurd hG (hbad (λh=>by omega))⟩):p:=h
def eK(h:p:=by have hr2:=hrun [];rw[jo]at hr2;refine go ?_;exact gQ bS iW (hk:=by rw[hr2];exact aJ.all _)):p:=h
def eL(h:p:=by
 unfold sizeOf typeInfo;cases hi:P.info? e with
 |none=>rw[hi]at hs;cases hs
 |some i=>
  rw[hi]at hs;have hs:i.size=1:=by simpa using hs
  simp only[gu,J9,lS,hi];rw[<- hs];rfl):p:=h
def eM(h:p:=by rw[sZ hn];exact⟨u,h2,by rw[qa];exact e1,λd' hd=>by rw[<- e2 d' hd];exact yu _ _⟩):p:=h
def eN(h:p:=by refine go ?_;exact gQ false (hR _ ⟨(λh=>by cases h),λh=>by exfalso;omega⟩)):p:=h
def eR(h:p:=by rw[hle (show Nat.mul (m+(k+1)) bytes<=small from hm.1),hle (show Nat.mul (m+(k+1)) size<=small from hm.2.1),hle (show m+(k+1)<=small from hm.2.2)];rfl):p:=h
def eU(h:p:=by refine go ?_;exact aW (k+1) (by omega) ⟨by omega,by omega⟩ (hl:=⟨rfl,by rw[hstep];rfl,by repeat (first|exact trivial|refine⟨rfl,?_⟩)⟩)):p:=h
def eV(h:p:=by exact ih ops cZ hv rest (i::done) S om hds β0 h0 w0 lF kE cs0 β w b tm df k cs ρ hG hdom hcx hI2 hR (by rw[yj];exact hcs) (by rw[ym];exact hro)):p:=h
def eW(h:p:=by
 have e:(w.new (.mapIter (some b) clock [] clock)).h.get b=w.h.get b:=by
  show(w.h.new _).get b=_;rw[IH.jD,if_neg (by have:=w.oq b hz;omega)]
 grind):p:=h
def fa(h:p:=by rw[lit (kd:=1) (set:=r.set) (other:=r.other) (lo:=r.n) (hi:=0) (runs:=[]) (by simp[nR,aaY,e])];exact akm hi1 hi2 (by omega) hs ho hn hz hr0 hr1):p:=h
def fb(h:p:=by
 have hno:¬bD k:=λh=>by have:=hb.2 h;cases this
 dsimp only[cond];refine go ?_;exact gQ 180 ⟨λ_=>rfl,λh=>absurd h hno,λh=>absurd h hno⟩):p:=h
def fc(h:p:=by
 intro v pm h2 hm;dsimp only at hm;split at hm
 .rename_i lp hlp;split at hm
  .cases hm
  .rename_i hs;exact⟨lp,hlp,λe=>hs e,hm⟩
 .cases hm):p:=h
def ff(h:p:=by
 have:CS j (false::bs)=(j:Int)::CS 0 bs:=by rw[CS,if_neg (by simp),if_pos hj]
 rw[this];constructor
 .intro h;rw[h];rfl
 .intro h;injection h):p:=h
def fg(h:p:=by obtain⟨c,h1,h2⟩:=P9 2 (by omega) (λn2 hn2=>by rw[h]at hn2;rw[hn2];split;exact .inr rfl;exact .inl rfl) hc;exact⟨c,h1,.inr h2⟩):p:=h
def fh(h:p:=by refine go ?_;exact aW (j+1) (by omega) (by omega) (hl:=⟨rfl,by rw[hstep];rfl,by repeat (first|exact trivial|refine⟨rfl,?_⟩)⟩)):p:=h
def fk(h:p:=by
 refine hW.inj _ _ _ _ hk hm ?_ ?_ hr he
 .split at hj
  .exact absurd rfl hj
  .exact hj
 .split at hl
  .exact absurd rfl hl
  .exact hl):p:=h
def fp(h:p:=by apply Classical.byContradiction;intro hn;rw[BU (by omega)]at h;cases h):p:=h
def fL(h:p:=by subst this;intro e;subst e;exact hm2 ha):p:=h
def fN(h:p:=by rw[wm (by rw[xC];exact h)]at hy;subst hy;cases e):p:=h
def fR(h:p:=by refine go ?_;exact aW (k+1,met',q',qv') (by show ns.length - (k+1)<ns.length - k;omega) ⟨by show k+1<=_;omega,KQ,hin',hl'⟩):p:=h
def fS(h:p:=by have:=congrArg List.length hd;simp at this;omega):p:=h
def fW(h:p:=by subst e;rw[hn]at hm;cases hm;refine⟨by omega,by omega,h6,UJ,λl2 hl2=>?_⟩;rw[fI]at hl2;rw[hl2]at hl';cases hl';exact h9):p:=h
def ga(h:p:=by exact gQ ⟨v4,0⟩ ⟨λ_=>⟨hg,by omega,by omega⟩,λ_=>rfl⟩):p:=h
def gb(h:p:=by
 obtain⟨v,hv⟩:=Ko h;have e:kw true zero a aC=.tuple ⟨[v,.bool true]⟩:=by unfold kw;rw[hv];rfl
 rw[e];exact hit v hv h):p:=h
def gf(h:p:=by refine go ?_;exact gQ false ⟨(λh=>by cases h),λhG=>absurd hG (hbad (λh=>h9 (h.2.2.2.2 l' (by simpa using hl'))))⟩):p:=h
def gi(h:p:=by
 cases h:Nat.beq (m%2) 0 with
 |true=>simp[uj h]
 |false=>simp[IL h]):p:=h
def gj(h:p:=by
 rw[sN (by omega)]at hk;have hk0:k=xs.length:=by
  grind
 subst hk0;simp at hk;subst hk;refine⟨y,λj u hj=>?_,h3⟩
 grind):p:=h
def gk(h:p:=by
 rcases hcx.round with⟨_,hb⟩|⟨l,g,hl,_⟩
 .exact hb
 grind):p:=h
def gv(h:p:=by simp only[uP];exact⟨λv hv l hl n hn hi=>hcl v (by simpa using hv) l hl n hn hi,(by simp),(by simp),(by simp)⟩):p:=h
def gx(h:p:=by refine go ?_;exact aW (k+1,w2) (by show c.runs.length - (k+1)<c.runs.length - k;omega) (by show k+1<=_;omega)):p:=h
def gA(h:p:=by
 intro o a' h' hm hn;cases o with
 |normal=>exact absurd rfl hn
 |exit _=>exact hm
 |ret=>exact hm
 |panic _=>exact hm):p:=h
def gE(h:p:=by exact⟨rr,h2',β2,w2,F2,r2,p1,p2,q3.trans p3,p4,(Steps.head s1 (e2.trans (.one s2))).trans p5,p6,p7,p8⟩):p:=h
def gK(h:p:=by obtain⟨w',rfl,kF⟩:=key h' ag uK hnx;exact hsm _ w' kF):p:=h
def gO(h:p:=by
 obtain⟨cs,r,⟨e,_⟩|⟨_,e⟩⟩:=h
 .rw[ha]at e;cases e
 .obtain⟨a,y,q0,q⟩:=hr w H d cs hz r
  grind):p:=h
def gR(h:p:=by refine go ?_;exact gQ false ⟨(λh=>by cases h),λh=>by have:=h.cell k x hx;dsimp only at this;omega⟩):p:=h
def gU(h:p:=by
 obtain⟨cs,r,⟨_,e⟩|⟨e,_⟩⟩:=h
 .obtain⟨a,y,rfl,q⟩:=hr w H d cs hz r;exact⟨a,y,e,q⟩
 grind):p:=h
def hJ(h:p:=by show Value.bool (decide ((n:Int)<=1))=_;rw[show decide ((n:Int)<=1)=decide (n<=1)from nZ.2 (by omega)]):p:=h
def hU(h:p:=by
 have e:kw true zero a aC=.tuple ⟨[zero,.bool false]⟩:=by unfold kw;rw[wm h];rfl
 rw[e];exact miss h):p:=h
def ia(h:p:=by
 have hdl:(cells.drop o).length=xs.length*E.n:=by grind
 rw[JR.cX.je,qw,qM,if_pos (by omega),<- hdl,dK]):p:=h
def ii(h:p:=by rw[hat.cX.je,qw,qM,BS,za,if_pos (by omega),<- hlen,dK]):p:=h
def ij(h:p:=by refine go ?_;refine arR ?_;exact gQ false ⟨(λh=>by cases h),λh=>absurd h (all (by omega) h2)⟩):p:=h
def iq(h:p:=by
 intro ys zs;induction zs generalizing ys with
 |nil=>simp[gM]
 |cons z zs ih=>rw[gM];simp only[ih];simp):p:=h
def ir(h:p:=by exact absurd (hW.dom _ _ hk) (by omega)):p:=h
def iu(h:p:=by
 rcases hel with⟨_,a,c,h,_⟩|⟨i,o,f,c,cells,⟨h,_⟩,_⟩
 .exact⟨a,c,h⟩
 .exact⟨_,c,h⟩):p:=h
def iv(h:p:=by obtain⟨v0,_,h0⟩:=a7 j v hj;obtain⟨v',h1,h2⟩:=b7 j v hj;exact⟨v',h1,h0.restrict hle h2⟩):p:=h
def iz(h:p:=by refine go ?_;exact gQ w trivial):p:=h
def iI(h:p:=by
 rcases a with⟨rfl,a,m,c,rfl,rfl⟩|⟨i,o,f,c,cs,h1,_⟩
 .exact⟨a,c,rfl⟩
 .exact⟨_,c,h1⟩):p:=h
def iM(h:p:=by exact gQ (.slice (some ⟨b,0,some 0⟩) 0 0) trivial):p:=h
def iP(h:p:=by
 cases o with
 |normal=>exact absurd rfl hn
 |_=>exact hm):p:=h
def iS(h:p:=by
 unfold zm at hz;split at hz
 .rename_i z' n' hz' _;obtain⟨i',j1,j2,_⟩:=F8 hz'
  grind
 .cases hz):p:=h
def i6(h:p:=by intro h;rw[Bb h]at hy;subst hy;cases e):p:=h
def i7(h:p:=by
 have hx:iU r.kind=⟨true,false,false,false,false,true,true,0⟩:=by rw[hk];rfl
 clear hk;exact wG):p:=h
def jc(h:p:=by
 have hx:iU r.kind=⟨false,true,false,false,false,true,true,0⟩:=by rw[hk];rfl
 clear hk;exact wG):p:=h
def jj(h:p:=by unfold Rg at this;exact agt.2 ⟨this.1,this.2,by unfold dU;rw[DV,aeS,if_pos (by omega)];rfl⟩):p:=h
def jm(h:p:=by obtain⟨a,b⟩:=hr.cellV hc;cases v<;>first|rfl|exact absurd rfl (a _)|exact absurd rfl (b _)):p:=h
def jn(h:p:=by exact aW (k+1,v1) (by show cells.length - (k+1)<cells.length - k;omega) (by show k+1<=_;omega)):p:=h
def jp(h:p:=by simp only[execOp,Instr.sliceAt,Instr.slice,dY,gY hu,eZ,hx',e1,e2,e3,b1,pq hs1,fZ];split<;>rfl):p:=h
def js(h:p:=by simp only[lT]at hc;obtain⟨_,_,rfl⟩:=hc;simp only[aR.run,aR.alloc,h0,h1,h2,h3,and_self]):p:=h
def jt(h:p:=by refine go ?_;exact gQ false ⟨(λh=>by cases h),λh=>by exfalso;have:=h.eH s hsm;omega⟩):p:=h
def ju(h:p:=by have:=mX hl;rw[h]at this;injection this with h1 h2;exact⟨hl,by rw[bN hl,h1],h2.symm⟩):p:=h
def jx(h:p:=by rw[gp];refine List.Perm.append_left T1 ?_;rw[<- gp];exact List.Perm.append_right S2 u6):p:=h
def jz(h:p:=by unfold lC;rw[gu];simp only[binOp];rw[gu,he];rfl):p:=h
def jG(h:p:=by rw[<- hf];refine step_lone_go ?_;rw[En ho hw (.inl hro)];simp[stepG.apply,hr,hre,ht]):p:=h
def jQ(h:p:=by refine go ?_;exact aW (j+1,_) (by show r - (j+1)<r - j;omega) (by show j+1<=_;omega)):p:=h
def j0(h:p:=by
 induction l with
 |nil=>exact .nil
 |cons x l ih=>exact .cons (h x (by simp)) (by grind)):p:=h
def j7(h:p:=by show dX P (Instr.checkKey b (9999+1) kt _)=_;unfold Instr.checkKey;rw[gu,qz hu];rfl):p:=h
def j8(h:p:=by
 rw[ql hlt]at hk;obtain⟨y',q1,q2⟩:=h2 k z hk;refine⟨y',λj u hj=>?_,q2⟩
 grind):p:=h
def j9(h:p:=by subst hn;simp only[fr]at he' hcall⊢;simp[stepG,stepG.exec,he',stepG.apply,hcall]):p:=h
def ki(h:p:=by refine go ?_;exact gQ false ⟨(λh=>by cases h),λh=>by have:=h.symbols;omega⟩):p:=h
def kj(h:p:=by exact akm hi1 hi2 (.inr (.inr ⟨by omega,all (by omega)⟩)) hs ho hn hz hr0 hr1):p:=h
def kp(h:p:=by exact akm hi1 hi2 (.inr (.inl ⟨by omega,two (by omega)⟩)) hs ho hn hz hr0 hr1):p:=h
def kq(h:p:=by
 match vs with
 |[]=>rfl
 |[v]=>rfl
 |_::_::_=>rfl):p:=h
def kx(h:p:=by refine go ?_;exact gQ false ⟨(λh=>by cases h),λh=>by have:=h.cells;omega⟩):p:=h
def kz(h:p:=by
 rcases dm.1 hk with rfl|hk
 .exact fP _ (hpre j hj)
 .exact fP _ (hcl k hk j hj)):p:=h
def kY(h:p:=by exact⟨this.1,this.2.1⟩):p:=h
def kZ(h:p:=by
 intro zs;induction zs with
 |nil=>rfl
 |cons z zs ih=>simp[iY,dQ,Ideal.cellV,ih]):p:=h
def li(h:p:=by
 cases es with
 |nil=>rfl
 |cons e es=>cases h):p:=h
def lj(h:p:=by
 induction h with
 |nil=>exact .nil
 |cons h1 _ ih=>exact .cons (.there h1) ih):p:=h
def lm(h:p:=by
 intro x hx;rcases fU.1 hx with hx|hx
 .exact hall x hx
 .rw[eG.1 hx];omega):p:=h
def lq(h:p:=by have e:(iU 11).op=false:=rfl;rw[e,if_neg (by simp)]at hn2;exact .inr hn2):p:=h
def lz(h:p:=by
 rcases ho with o|o|o
 .simp[o]<;>omega
 .simp[o]<;>omega
 .simp[o]<;>omega):p:=h
def lA(h:p:=by rw[ajA]at this;have:=akY (List.replicate g.length true) g.length;omega):p:=h
def lB(h:p:=by rw[e]at this;exact Option.some.inj this):p:=h
def lE(h:p:=by injection this with this;injection this):p:=h
def lI(h:p:=by unfold upTo' at hc;obtain⟨i,hi,rfl⟩:=cO.1 hc;have:=xP.1 hi;omega):p:=h
def lM(h:p:=by
 cases hb:Nat.ble (m+(k+1)) m with
 |false=>rfl
 |true=>have:=pQ hb;omega):p:=h
def lN(h:p:=by simp only[ax,lQ,DT]at hr;simp only[hr]):p:=h
def lO(h:p:=by have:=OR.Jk (P:=P) (w:=w) t (hcs.mono hle) hc [] 0;simpa using this):p:=h
def lP(h:p:=by exact this.imp (λh=>by simpa using h)):p:=h
def lR(h:p:=by
 intro g hg;rcases fU.1 hg with hg|hg
 .exact q2 g hg
 .exact u2 g hg):p:=h
def l8(h:p:=by dsimp only[cond];refine go ?_;exact uO () (hv:=rfl) (hp:=trivial)):p:=h
def mb(h:p:=by refine go ?_;exact gQ xs rfl (hk:=by rw[<- hrun];exact aJ.all _)):p:=h
def mc(h:p:=by
 induction d with
 |zero=>exact bG _
 |succ d ih=>rw[<- pR,cnt];omega):p:=h
def me(h:p:=by refine go ?_;exact bad (λq=>by have:=q.wi;omega) rfl rfl .here):p:=h
def mj(h:p:=by refine go ?_;exact bad (λq=>by have:=q.he;omega) rfl rfl .here):p:=h
def mm(h:p:=by exact⟨j,by omega,h2,h3⟩):p:=h
def mo(h:p:=by cases other.testBit s<;>first|rfl|(cases other.testBit u<;>rfl)):p:=h
def mu(h:p:=by obtain⟨v,h1,h2,h3⟩:=hm;cases he;rw[h2];exact .ret v h1 h3):p:=h
def mw(h:p:=by rw[h2,<- h.decl]at this;exact this):p:=h
def mz(h:p:=by exact gQ (.slice none 0 0) trivial):p:=h
def mA(h:p:=by obtain⟨w',rfl,kF⟩:=key h' ag uK hnx;exact next _ w' kF):p:=h
def mB(h:p:=by
 cases m with
 |zero=>simp[T.F4]
 |succ m=>
  rw[T.zn,T.zn]
  grind):p:=h
def mC(h:p:=by simp only[execOp,resolve,k4,Deferred.ofValue,dY,fZ,eZ,he]):p:=h
def mL(h:p:=by rw[hl];simp only[ax,lQ]at hr⊢;exact⟨hr.2.symm,hr.1⟩):p:=h
def mN(h:p:=by rw[hk]at this;simp[jK,hk,this.oh]):p:=h
def mQ(h:p:=by rw[fq h,BZ,gW,Ae (by omega)];simp):p:=h
def mR(h:p:=by refine aZ ?_;rw[eB (.inl h1)];rfl):p:=h
def mS(h:p:=by simp only[aR.run,hx,hy];rw[AL];simp[sP,uF,<- Int.not_le]):p:=h
def mT(h:p:=by
 rcases Nat.mul_eq_zero.1 h0 with hh|hh
 .exact hh
 .omega):p:=h
def mU(h:p:=by injection hpq with e1 e2;exact Prod.ext (inj _ _ e1) e2):p:=h
def mV(h:p:=by exact⟨.value v',w',β',v',Ar r1,.inl rfl,r2,r3,r4⟩):p:=h
def mW(h:p:=by show Value.int .i64 _=Value.int .i64 _;congr 1;omega):p:=h
def nc(h:p:=by rintro t ⟨y,p,_,_,hp',nM⟩;exact hds y p t hp' nM):p:=h
def nh(h:p:=by rw[FK,fu,rJ,Nat.mul_add];omega):p:=h
def nj(h:p:=by have:=congrArg List.length hd;simp[mi]at this;omega):p:=h
def nq(h:p:=by show(bS++[x]).map pJ=_;rw[bZ,kg,iW];exact hnx.symm):p:=h
def nr(h:p:=by
 rw[bZ,iX,aaZ,iW];conv=>rhs;rw[adQ (j+1),hnx,gp]
 rfl):p:=h
def nt(h:p:=by refine aZ ?_;rw[dA (λe=>k7 (by cases e;rfl))];rfl):p:=h
def nv(h:p:=by refine aZ ?_;rw[dA (λe=>k6 (by cases e;rfl))];rfl):p:=h
def nw(h:p:=by refine aZ ?_;rw[dA (λe=>k5 (by cases e;rfl))];rfl):p:=h
def nB(h:p:=by refine aZ ?_;rw[dA (λe=>k4 (by cases e;rfl))];rfl):p:=h
def nD(h:p:=by refine aZ ?_;rw[dA (λe=>k3 (by cases e;rfl))];rfl):p:=h
def nE(h:p:=by refine aZ ?_;rw[dA (λe=>k2 (by cases e;rfl))];rfl):p:=h
def n5(h:p:=by obtain⟨w',rfl,kF⟩:=key h' mv;exact hsm _ w' kF):p:=h
def n9(h:p:=by
 cases r with
 |none=>simp[F9 hz,Js]
 |some p=>simp[Js]):p:=h
def oa(h:p:=by
 refine gB 137 λB w0=>?_;refine go ?_;intro b5 b6;refine gC (aew (bT:=bT) (t:=t') (x:=1) (by simp only[rJ]at *;omega)) λ_ _=>?_;refine gH ?_ ?_<;>intro g1
 rotate_left
 .exfalso;omega
 exact cI):p:=h
def oc(h:p:=by
 refine gB 137 λB w0=>?_;refine go ?_;intro b5 b6;refine go ?_;refine(dx rfl rfl (SS (a:=1) (b:=S) rfl rfl (by omega) (by omega))).h ?_;rw[hsh];refine gC (ahK (bT:=bT) (t:=t) (x:=1) (by simp only[rJ]at *;omega)) λ_ _=>?_;refine gH ?_ ?_<;>intro g1
 rotate_left
 .exfalso;omega
 exact cI):p:=h
def od(h:p:=by
 refine gB 137 λB w0=>?_;refine go ?_;intro b5 b6;refine gC (ahK (bT:=bT) (t:=t) (x:=1) (by simp only[rJ]at *;omega)) λ_ _=>?_;refine gH ?_ ?_<;>intro g1
 rotate_left
 .exfalso;omega
 exact cI):p:=h
def oe(h:p:=by obtain⟨i,hi⟩:=gT hx;have:=hc.cell i x hi;exact kY):p:=h
def ov(h:p:=by omega):p:=h
def ox(h:p:=by simp):p:=h
def oy(h:p:=by first|omega|(simp[aa,aL]<;>omega)):p:=h
def oA(h:p:=by first|exact rfl|(conv=>lhs;whnf)):p:=h
def oB(h:p:=by kernel_rfl):p:=h
def oE(h:p:=by simp[Op.operands]):p:=h
def oF(h:p:=by simp;omega):p:=h
def oH(h:p:=by show k+1<=_;omega):p:=h
def oI(h:p:=by simpa using h):p:=h
def oR(h:p:=by simp[hx]):p:=h
def oS(h:p:=by first|omega|(simp only[rJ]at *;omega)):p:=h
def oT(h:p:=by rw[hnx];exact h):p:=h
def oU(h:p:=by decide):p:=h
def oV(h:p:=by repeat (first|exact trivial|refine⟨rfl,?_⟩)):p:=h
def oW(h:p:=by simp[h]):p:=h
def pb(h:p:=by simp[stepG,stepG.exec,fr]):p:=h
def pe(h:p:=by first|omega|(simp<;>omega)):p:=h
def ph(h:p:=by cases e;rfl):p:=h
def pn(h:p:=by rw[e];rfl):p:=h
def po(h:p:=by rw[hk];rfl):p:=h
def pw(h:p:=by simp[nR,aaY,e]):p:=h
def px(h:p:=by show q.cons.length - (k+1)<q.cons.length - k;omega):p:=h
def py(h:p:=by simp only[rJ]at *;omega):p:=h
def pA(h:p:=by show cells.length - (k+1)<cells.length - k;omega):p:=h
def pB(h:p:=by rw[hf];simp):p:=h
def pC(h:p:=by dsimp only;omega):p:=h
def pD(h:p:=by simpa using h1):p:=h
def pH(h:p:=by simpa[wN]using hb):p:=h
def pL(h:p:=by rw[e2];exact hw):p:=h
def pM(h:p:=by simpa[rT]using hb):p:=h
def pN(h:p:=by simpa using h2):p:=h
def pP(h:p:=by intro e;rw[e]at h;cases h):p:=h
def pS(h:p:=by subst hy;simp[Op.operands]):p:=h
def pT(h:p:=by rw[ym];exact hro):p:=h
def pZ(h:p:=by apply Array.ext';simp):p:=h
def p0(h:p:=by simpa using hm):p:=h
def qd(h:p:=by rw[hop];rfl):p:=h
def qe(h:p:=by rw[qa];exact hr):p:=h
def qf(h:p:=by simp[hy]):p:=h
def qg(h:p:=by simpa using hnd):p:=h
def qj(h:p:=by simpa using hc):p:=h
def qq(h:p:=by show i+1<=_;omega):p:=h
def qt(h:p:=by simpa using hi):p:=h
def qu(h:p:=by simpa using hz):p:=h
def qF(h:p:=by simp only[Op.operands,List.mem_toArray,cO];exact⟨p,hp,rfl⟩):p:=h
def qS(h:p:=by simpa using hx):p:=h
def qT(h:p:=by rw[put_defers];exact t2.act.defers):p:=h
def ri(h:p:=by intro r hr;cases hr):p:=h
def rj(h:p:=by rw[sZ hn];exact next):p:=h
def rp(h:p:=by rw[h3];exact eG.2 rfl):p:=h
def rA(h:p:=by simpa using e):p:=h
def rB(h:p:=by intro e;cases e):p:=h
def rE(h:p:=by rw[r9];omega):p:=h
def rF(h:p:=by rw[xC];exact hm):p:=h
def rI(h:p:=by show Value.bool _=_;rw[tX]):p:=h
def rK(h:p:=by simp[iY,dQ,Ideal.cellV]):p:=h
def rL(h:p:=by rw[bi,gW];omega):p:=h
def rN(h:p:=by show j+1<=_;omega):p:=h
def rS(h:p:=by rw[hre];rfl):p:=h
def r5(h:p:=by simp[nR,hk]):p:=h
def r6(h:p:=by simp only[fu];omega):p:=h
def r7(h:p:=by simp[ab9]):p:=h
def r8(h:p:=by simpa[dQ]using h):p:=h
def sg(h:p:=by rw[e2];exact q1):p:=h
def si(h:p:=by rw[<- JD];exact hdd):p:=h
def sj(h:p:=by simp[Op.operands,Call.operands]):p:=h
def sn(h:p:=by simp only[Op.operands,Call.operands];grind):p:=h
def sq(h:p:=by rw[hget];simp):p:=h
def su(h:p:=by rw[hh];exact h2):p:=h
def sv(h:p:=by rw[hx];exact hread):p:=h
def sx(h:p:=by simpa using hj):p:=h
def sA(h:p:=by have:=WZ.2 hne;omega):p:=h
def sB(h:p:=by simpa using hrg):p:=h
def sC(h:p:=by rw[<- hrun];exact aJ.all _):p:=h
def sE(h:p:=by show g.length - (k+1)<g.length - k;omega):p:=h
def sF(h:p:=by simpa using hin):p:=h
def sG(h:p:=by intro s x lo o B w0;refine go ?_;intro b8;refine go ?_;exact zI b8 rfl):p:=h
def sI(h:p:=by show lb.length - (k+1)<lb.length - k;omega):p:=h
def sJ(h:p:=by show d.rules.length - (k+1)<d.rules.length - k;omega):p:=h
def sK(h:p:=by unfold u7;omega):p:=h
def sL(h:p:=by rw[ahs,htp];simp;omega):p:=h
def sM(h:p:=by unfold vG;grind):p:=h
def sR(h:p:=by simp only[execOp,hx',dY,Cm h1 w,eZ,fZ]):p:=h
def sX(h:p:=by simp only[Op.operands,IQ];grind):p:=h
def sY(h:p:=by simp[stepG,stepG.exec,fr,hr]):p:=h
def s5(h:p:=by rw[put_defers];exact t2.act.defers.mono hle):p:=h
def s6(h:p:=by rw[yj];exact(hcs.mono t0).mono hle):p:=h
def s7(h:p:=by rw[q6];exact hcx.after hle q5):p:=h
def s8(h:p:=by generalize F.defers=d at hd;cases hd;rfl):p:=h
def s9(h:p:=by simp only[aR.run,aR.alloc,uw]):p:=h
def ta(h:p:=by first|((with_reducible apply Nl);(focus ((conv=>lhs;whnf);(first|done|fail))))|((with_reducible apply Nn);(focus ((conv=>lhs;whnf);(first|done|fail))))|((with_reducible apply Ns);exact rfl)|((with_reducible apply Nu);exact rfl;exact rfl)|((with_reducible apply Nv);exact rfl;exact rfl)|((with_reducible apply Nw);exact rfl;exact rfl)|((with_reducible apply Ny);exact rfl;exact rfl)|((with_reducible apply Nz);exact rfl;exact rfl)|((with_reducible apply NA);exact rfl;exact rfl)|((with_reducible apply Nr);exact rfl)|((with_reducible apply Np);exact rfl;(focus ((conv=>lhs;whnf);(first|done|fail))))|((with_reducible apply Nq);exact rfl;(focus ((conv=>lhs;whnf);(first|done|fail))))|((with_reducible apply NC);exact rfl;(focus ((conv=>lhs;whnf);(first|done|fail))))|((with_reducible apply ND);exact rfl)|((with_reducible apply NE);exact rfl;(focus ((conv=>lhs;whnf);(first|done|fail))))|((with_reducible apply NF);exact rfl;(focus ((conv=>lhs;whnf);(first|done|fail))))|((with_reducible apply NG);(focus ((conv=>lhs;whnf);(first|done|fail))))|((with_reducible apply NH);exact rfl)|((with_reducible apply NI);exact rfl)|((with_reducible apply NJ);exact rfl)|with_reducible exact Nt|((with_reducible apply NK);exact rfl;exact rfl;exact rfl)|((with_reducible apply NW);exact rfl;exact rfl;(focus ((omega);(first|done|fail))))|((with_reducible apply JP);exact rfl;exact rfl;(focus ((omega);(first|done|fail)));(focus ((omega);(first|done|fail))))|((with_reducible apply NL);exact rfl;exact rfl;(focus ((omega);(first|done|fail)));(focus ((omega);(first|done|fail))))|((with_reducible apply Gu);exact rfl;exact rfl;(focus ((omega);(first|done|fail)));(focus ((omega);(first|done|fail))))|((with_reducible apply NB);exact rfl;exact rfl;(focus ((omega);(first|done|fail)));(focus ((omega);(first|done|fail))))|((with_reducible apply NP);exact rfl;exact rfl;(focus ((first|assumption|kernel_rfl);(first|done|fail))))|((with_reducible apply NQ);exact rfl;exact rfl;(focus ((first|assumption|kernel_rfl);(first|done|fail))))|((with_reducible apply NR);exact rfl;exact rfl)|((with_reducible apply NS);exact rfl;exact rfl)|((with_reducible apply NT);exact rfl;exact rfl;(focus ((omega);(first|done|fail)));(focus ((omega);(first|done|fail))))):p:=h
def tc(h:p:=by rw[<- (hk2 y).eq,<- (hF2 y).eq];exact back w' _ _ c):p:=h
def td(h:p:=by rcases ho with rfl|rfl<;>rfl):p:=h
def tf(h:p:=by unfold vG;rw[if_neg (λh=>hnl h.1)]):p:=h
def tg(h:p:=by unfold vG;rw[if_pos ⟨h1,h2⟩];omega):p:=h
def tj(h:p:=by show ns.length - (k+1)<ns.length - k;omega):p:=h
def tn(h:p:=by have:=hok.tT;have:=hf.1;omega):p:=h
def tt(h:p:=by rw[rM,if_pos rfl,if_pos hk]):p:=h
def tw(h:p:=by repeat (first|exact aD.here|apply aD.there)):p:=h
def tD(h:p:=by show g.cells.length - (i+1)<g.cells.length - i;omega):p:=h
def tE(h:p:=by show aH.length - (i+1)<aH.length - i;omega):p:=h
def tG(h:p:=by show ln.length - (j+1)<ln.length - j;omega):p:=h
def tI(h:p:=by show xs.length - (k+1)<xs.length - k;omega):p:=h
def tM(h:p:=by show d.regions.length - (k+1)<d.regions.length - k;omega):p:=h
def tO(h:p:=by show ls.length - (j+1)<ls.length - j;omega):p:=h
def tP(h:p:=by rw[hr];first|exact aJ.all _|exact aJ.self _ _):p:=h
def tQ(h:p:=by show p.length - (j+1)<p.length - j;omega):p:=h
def tR(h:p:=by show k.decl.rules.length - (j+1)<k.decl.rules.length - j;omega):p:=h
def tS(h:p:=by rw[<- List.getElem_eq_iff hl|>.2 hx,<- mX hl,l5]):p:=h
def tU(h:p:=by rw[aQ.JI (JJ pM)];exact hi):p:=h
def tW(h:p:=by rw[qw,qM,za,if_pos ov,<- hl,dK]):p:=h
def ua(h:p:=by rw[rM,if_pos rfl,if_pos ov]):p:=h
