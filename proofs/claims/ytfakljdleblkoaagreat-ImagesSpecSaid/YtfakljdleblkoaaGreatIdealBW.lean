/-
  Part IdealBW.
-/
import Derived.Test.YtfakljdleblkoaaGreatIdealAW
import Derived.IntWalk
import Derived.Laws.Append
set_option linter.all false
namespace Go.Ideal
variable {P:Program} {β:aC} {h:IH} {w:World}
variable{v:Value}
theorem VR.F9{b:Bool}(h:VR β (.bool b) v):v=.bool b:=by cases h;rfl
theorem VR.mF{k:IntKind}{n:Int}(h:VR β (.int k n) v):v=.int k n:=by cases h;rfl
theorem VR.zG{s:ByteArray}(h:VR β (.string s) v):v=.string s:=by cases h;rfl
variable{i o:Nat}
theorem VR.uk(h:VR β (.pointer (some ⟨i,o,none⟩)) v):∃g,β i=some g/\v=.pointer (some ⟨g.b,g.off+o,none⟩):=by
 cases h with|ptr hi=>exact⟨_,hi,rfl⟩
theorem VR.Br(h:VR β (.map (some i)) v):∃g,β i=some g/\v=.map (some g.b):=by
 cases h with|map hi=>exact⟨_,hi,rfl⟩
theorem VR.zH{t:TypeId}{u:Value}(h:VR β (.iface t u) v):∃u',VR β u u'/\v=.iface t u':=by
 cases h with|iface t hi=>exact⟨_,hi,rfl⟩
theorem VR.Km{l:List Value}(h:VR β (.agg ⟨l⟩) v):∃l',aZ β l l'/\l.all Ideal.cellV=true/\v=.agg ⟨l'⟩:=by
 cases h with|agg hc hl=>exact⟨_,hl,hc,rfl⟩
theorem VR.zI{fn:Fn}{f c:List Value}(h:VR β (.func fn ⟨f⟩ ⟨c⟩) v):∃fn' f' c',FR β fn fn'/\aZ β f f'/\aZ β c c'/\v=.func fn' ⟨f'⟩ ⟨c'⟩:=by
 cases h with|func h1 h2 h3=>exact⟨_,_,_,h1,h2,h3,rfl⟩
theorem VR.nI{f:Option Nat}{n c:Nat}(h:VR β (.slice (some ⟨i,o,f⟩) n c) v):
 ∃g a c',β i=some g/\v=.slice (some a) n c'/\a.block=g.b/\True/\n<=c/\c<=c'/\(c'=0\/(a.off=g.off+o/\a.spot=none))/\
  ((f=some 0/\c'=c)\/(f=some g.sz/\0<g.sz/\o+c*g.sz=g.len/\(g.off+o+c'*g.sz=g.top/\a.spot=none))):=by
 cases h with
 |ak hi hb hn ha=>exact⟨_,_,_,hi,rfl,hb,trivial,hn,bV _,ha,.inl ⟨rfl,rfl⟩⟩
 |pE hi hb hs hn hz hl ht hc ha=>exact⟨_,_,_,hi,rfl,hb,trivial,hn,hc,ha.imp id (λe=>⟨e,hs⟩),.inr ⟨rfl,hz,hl,ht,hs⟩⟩
theorem aZ.of_map{γ:Type}{f f':γ->Value}{l:List γ}(h:∀x∈l,VR β (f x) (f' x)):aZ β (lT f l) (l.map f'):=by
 rw[wI];exact aZ.map l h
theorem W9(ρ:Operand->Value)(zero:List Value):qP ρ zero []=some zero:=rfl
theorem Kn(ρ:Operand->Value)(zero:List Value)(off size:Nat)(x:Operand)(ps:List (Nat×Nat×Operand)):
 qP ρ zero ((off,size,x)::ps)=match cellsOf (ρ x)with
  |none=>none
  |some vs=>if iF vs=size then(match jK zero off vs with
   |some cs=>qP ρ cs ps
   |none=>none)else none:=by
 show(match cellsOf (ρ x)with
  |none=>none
  |some vs=>cond (Nat.beq (iF vs) size) (match jK zero off vs with
   |some cs=>qP ρ cs ps
   |none=>none) none)=_
 cases cellsOf (ρ x)with
 |none=>rfl
 |some vs=>
  show cond (Nat.beq (iF vs) size) _ none=if iF vs=size then _ else none
  cases hb:Nat.beq (iF vs) size with
  |true=>rw[if_pos (p9 hb)];rfl
  |false=>rw[if_neg (CP hb)];rfl
theorem foldl_set(off:Nat):∀(l:List Value) (k:Nat) (A:Array Value),
 ((l.zipIdx k).foldl (λcs (x:Value×Nat)=>cs.setIfInBounds (off+x.2) x.1) A).size=A.size/\
 ∀j,((l.zipIdx k).foldl (λcs (x:Value×Nat)=>cs.setIfInBounds (off+x.2) x.1) A)[j]? =if off+k<=j/\j<off+k+l.length/\j<A.size then l[j - (off+k)]? else A[j]?:=by
 intro l;induction l with
 |nil=>intro k A;refine⟨rfl,λj=>?_⟩;rw[if_neg wx];rfl
 |cons x l ih=>
  intro k A;simp only[List.zipIdx_cons,tN];obtain⟨h1,h2⟩:=ih (k+1) (A.setIfInBounds (off+k) x);refine⟨by rw[h1];simp,λj=>?_⟩;rw[h2];simp only[Array.size_setIfInBounds,oD];by_cases hc:off+(k+1)<=j/\j<off+(k+1)+l.length/\j<A.size
  ·rw[if_pos hc,if_pos vj];rw[show j - (off+k)=(j - (off+(k+1)))+1 by omega,qI]
  ·rw[if_neg hc];by_cases hj:j=off+k
   ·subst hj;by_cases hs:off+k<A.size
    ·rw[if_pos vj];simp[hs]
    ·rw[if_neg vj,tL wx,tL vj]
   ·rw[if_neg vj];rw[Fx vj]
inductive F2{γ δ:Type}(R:γ->δ->Prop):List γ->List δ->Prop
 |nil:F2 R [] []
 |cons {a:γ} {b:δ} {l:List γ} {r:List δ} (h:R a b) (hl:F2 R l r):F2 R (a::l) (b::r)
theorem Ko{place:Nat->Option (Nat×Nat)}{ρ ρ':Operand->Value}:∀(parts:List (Nat×Operand)) (pc:List (Nat×Nat×Operand)) (zs zs' cs:List Value),
 F2 (λ(p:Nat×Operand) (q:Nat×Nat×Operand)=>q.2.2=p.2/\place p.1=some (q.1,q.2.1)) parts pc->aZ β zs zs'->zs.all Ideal.cellV=true->
 qP ρ zs pc=some cs->(∀p∈parts,VR β (ρ p.2) (ρ' p.2))->∃cs',Instr.fill place ⟨zs'⟩ (parts.map λp=>(p.1,ρ' p.2))=some ⟨cs'⟩/\aZ β cs cs'/\cs.all Ideal.cellV=true/\cs.length=zs.length:=by
 intro parts;induction parts with
 |nil=>
  intro pc zs zs' cs hf hz hc hr _;cases hf;rw[W9]at hr;cases hr;exact⟨zs',rfl,hz,hc,rfl⟩
 |cons p parts ih=>
  intro pc zs zs' cs hf hz hc hr hρ;obtain⟨i,x⟩:=p;cases hf with
  | @cons _ q _ pc hq hf=>
    obtain⟨off,size,y⟩:=q;obtain⟨hy,hpl⟩:=hq;simp only at hy hpl;subst hy;rw[Kn]at hr;split at hr
    ·cases hr
    ·rename_i vs hvs;split at hr
     ·rename_i hsz;split at hr
      ·rename_i cs1 hl;obtain⟨Pv,vs',hv1,hv2⟩:=(hρ (i,y) vm).cells hvs;obtain⟨l1,l2,l3⟩:=Ki hl;rw[wJ]at hsz;have hlen:=hv2.length;have hzl:=hz.length;have Ga:=foldl_set off vs' 0 ⟨zs'⟩
       -- the array behind the part
       have hA:∃Dl,((vs'.zipIdx 0).foldl (λcs (x:Value×Nat)=>cs.setIfInBounds (off+x.2) x.1) (⟨zs'⟩:Array Value))=⟨Dl⟩/\aZ β cs1 Dl:=by
        refine⟨_,rfl,aZ.WX ?_ ?_⟩
        ·have:=Ga.1;simp only[Array.size]at this;rw[this,hzl,l2]
        ·intro j v hj;have hg:=Ga.2 j;simp only[AV]at hg;rw[l3]at hj;have hjl:j<zs'.length:=by
          rw[hzl,<- l2];rcases qJ j cs1.length with hh|hh
          ·exact hh
          ·have:=l3 j;rw[gJ hh]at this;rw[<- this]at hj;cases hj
         split at hj
         ·rename_i hr2;obtain⟨v',h1,h2⟩:=hv2.get hj;refine⟨v',?_,h2⟩;rw[<- zg]at hg;rw[hg,if_pos wx];exact h1
         ·rename_i hr2;obtain⟨v',h1,h2⟩:=hz.get hj;refine⟨v',?_,h2⟩;rw[<- zg]at hg;rw[hg,if_neg wx];simpa using h1
       obtain⟨Dl,hA1,hA2⟩:=hA;have hc1:cs1.all Ideal.cellV=true:=by
        rw[kR]at hc Pv⊢;intro z Xa;obtain⟨j,hj⟩:=jT Xa;rw[l3]at hj;split at hj
        ·exact Pv z (aP hj)
        ·exact hc z (aP hj)
       obtain⟨cs',r1,r2,r3,r4⟩:=ih pc cs1 Dl cs hf hA2 hc1 hr λp hp=>hρ p (by simp[hp]);refine⟨cs',?_,r2,r3,vj⟩;simp only[ic,Instr.fill,hpl];rw[if_neg (by simp only[hv1,Array.size,qM,zh,not_or];omega)];have hz0:(ρ' y).cells.zipIdx=(⟨vs'.zipIdx 0⟩:Array (Value×Nat)):=by rw[hv1];simp
       rw[hz0];have hfl:Array.foldl (λcs (x:Value×Nat)=>match x with|(c,j)=>cs.setIfInBounds (off+j) c) (⟨zs'⟩:Array Value) (⟨vs'.zipIdx 0⟩:Array (Value×Nat))=⟨Dl⟩:=by
        rw[<- hA1,<- OM]
       rw[hfl];exact r1
      ·cases hr
     ·cases hr
end Go.Ideal
namespace Go.Ideal
variable {P:Program} {β:aC} {h:IH} {w:World}
variable{w':World}
theorem wM{s:Sem Value}{v:Value}{w:World}(h:s.run P w=.ok v w'):(do pure (.value (<- s)):Sem Next).run P w=.ok (.value v) w':=x7
theorem Pw{s:Sem Unit}{w:World}(h:s.run P w=.ok () w'):(do s;pure .skip:Sem Next).run P w=.ok .skip w':=x7
variable{t:TypeId}{cs cs':List Value}{s:Sem Next}
theorem Px(hcs:aZ β cs cs')(hc:cs.all cellV=true)
 (hr:s.run P w=.ok (.value (.pointer (some ⟨w.heap.size,0,none⟩))) {w with heap:=w.heap.push (.cells ⟨cs'⟩ t)}):
 uj P β w s (λi=>.pointer (some ⟨i,0,none⟩)) (.cells cs):=by
 refine⟨_,_,⟨w.heap.size,0,cs.length,cs.length+0,0⟩,hr,rfl,λi β' hle hi=>⟨?_,?_⟩⟩
 ·have:=VR.ptr (β:=β') (o:=0) hi;exact this
 ·exact tx
variable{n:Nat}
theorem Py{c:Nat}(hn:n<=c)(hcs:aZ β cs cs')(hc:cs.all cellV=true)
 (hr:s.run P w=.ok (.value (.slice (some ⟨w.heap.size,0,none⟩) n c)) {w with heap:=w.heap.push (.cells ⟨cs'⟩ t)}):
 uj P β w s (λi=>.slice (zq i 0) n c) (.cells cs):=by
 refine⟨_,_,⟨w.heap.size,0,cs.length,cs.length+0,0⟩,hr,rfl,λi β' hle hi=>⟨?_,?_⟩⟩
 ·exact VR.ak hi rfl hn (.inr ⟨rfl,rfl⟩)
 ·exact tx
theorem yc(h:u7 P t=some cs):
 ∃z i,P.info? t=some i/\i.zero=some z/\z.cells=⟨cs⟩/\fO cs=true/\jm P t=some cs.length:=by
 unfold u7 at h;split at h
 ·rename_i z n hz hn;split at h
  ·rename_i hh;cases h;obtain⟨i,h1,h2,h3⟩:=Bn hz;exact⟨z,i,h1,h2,rfl,hh.2,by rw[hh.1];exact hn⟩
  ·cases h
 ·cases h
theorem Pz(f:Nat->Value):Array.map f (Array.range 0)= #[]:=WC vm
variable{type e:TypeId}{dst:Option Tmp}{pos:String}{after:Array Edge}{guard:Option (Nat×Bool)}{c:aB}{ρ ρ':Operand->Value}{f:Nat->Value}{ob:dQ}
theorem Xb
 (hc:cop P ⟨dst,.alloc e,type,pos,after,guard⟩=some c) (ha:c.alloc ρ=some (f,ob)):uj P β w (execOp ρ' ⟨dst,.alloc e,type,pos,after,guard⟩) f ob:=by
 simp only[cop]at hc;split at hc
 ·rename_i cs hz;cases hc;simp only[aB.alloc]at ha;cases ha;obtain⟨z,i,h1,h2,h3,h4,_⟩:=yc hz;refine Px (t:=e) (aZ.free h4) (ug h4) ?_;simp[execOp,Instr.alloc,zeroValue,typeInfo,h1,h2,newVar,newRow,h3]
 ·cases hc
theorem Xc{x:Operand}
 (hc:cop P ⟨dst,.box e x,type,pos,after,guard⟩=some c) (ha:c.alloc ρ=some (f,ob)) (hx:VR β (ρ x) (ρ' x)):uj P β w (execOp ρ' ⟨dst,.box e x,type,pos,after,guard⟩) f ob:=by
 simp only[cop,aA]at hc;subst hc;simp only[aB.alloc]at ha;split at ha
 ·rename_i cs hcs;cases ha;obtain⟨h1,cs',h2,h3⟩:=hx.cells hcs;refine Px (t:=e) h3 h1 ?_;simp[execOp,Instr.box,newVar,newRow,h2]
 ·cases ha
theorem Xd{r:Option Operand}
 (hc:cop P ⟨dst,.makeMap t r,type,pos,after,guard⟩=some c) (ha:c.alloc ρ=some (f,ob)):uj P β w (execOp ρ' ⟨dst,.makeMap t r,type,pos,after,guard⟩) f ob:=by
 cases r with
 |some r=>simp[cop]at hc
 |none=>
  simp only[cop,aA]at hc;subst hc;simp only[aB.alloc]at ha;cases ha;refine⟨.map (some w.heap.size),.map #[] 0,⟨w.heap.size,0,0,0,0⟩,?_,rfl,λi β' hle hi=>⟨?_,?_⟩⟩
  ·simp[execOp,Instr.makeMap]
  ·have:=VR.map (β:=β') hi;exact this
  ·exact⟨#[],vm,.nil⟩
theorem Xe(z:List Value)(n:Nat)(hz:z≠[]):∀j,(zeros z n)[j]? =if j<n*z.length then z[j%z.length]? else none:=by
 induction n with
 |zero=>intro j;show([]:List Value)[j]? =_;simp
 |succ n ih=>
  intro j;have hpos:0<z.length:=AX.2 hz;show(jY z (zeros z n))[j]? =_;rw[jF];by_cases hj:j<z.length
  ·rw[qL hj,if_pos (by rw[Nat.succ_mul];omega),Nat.mod_eq_of_lt hj]
  ·rw[qa vj,ih];have:(j - z.length)%z.length=j%z.length:=by
    rw[<- Nat.mod_eq_sub_mod vj]
   rw[this];by_cases hl:j<(n+1)*z.length
   ·rw[if_pos hl,if_pos (by rw[Nat.succ_mul]at hl;omega)]
   ·rw[if_neg hl,if_neg (by rw[Nat.succ_mul]at hl;omega)]
theorem yf{z:List Value}(hz:fO z=true)(n:Nat):fO (zeros z n)=true:=by
 have happ:∀(a b:List Value),fO a=true->fO b=true->fO (a++b)=true:=by
  intro a b ha hb;induction a with
  |nil=>exact hb
  |cons x a ih=>simp[fO]at ha⊢;exact⟨ha.1,ih ha.2⟩
 induction n with
 |zero=>rfl
 |succ n ih=>show fO (jY z (zeros z n))=true;rw[jF];exact happ _ _ hz ih
theorem Gb(z:List Value)(n:Nat)(hz:z≠[]):(Array.range (n*z.length)).map (λj=>(⟨z⟩:Array Value)[j%(⟨z⟩:Array Value).size]!)=⟨zeros z n⟩:=by
 have hpos:0<z.length:=AX.2 hz;apply Array.ext';apply jv;intro j;show _=(zeros z n)[j]?;rw[Xe z n hz];simp only[JK,Array.toList_range,dK];by_cases hj:j<n*z.length
 ·rw[if_pos hj,qN hj];have hm:j%z.length<z.length:=aht _ hpos;simp[hm]
 ·rw[if_neg hj,gJ wx];rfl
theorem sG(h:mY P t=some n):jm P t=some n/\0<n:=by
 unfold mY at h;split at h
 ·cases h
 ·rename_i h2;refine⟨h,?_⟩;rcases JL n with h0|h0
  ·subst h0;exact absurd h h2
  ·exact h0
theorem Xf{l k:Operand}
 (hc:cop P ⟨dst,.makeSlice t l k,type,pos,after,guard⟩=some c) (ha:c.alloc ρ=some (f,ob)) (hl:VR β (ρ l) (ρ' l)) (hk:VR β (ρ k) (ρ' k)):
 uj P β w (execOp ρ' ⟨dst,.makeSlice t l k,type,pos,after,guard⟩) f ob:=by
 simp only[cop]at hc;split at hc
 ·rename_i e hu;split at hc
  ·rename_i s z hs hz;cases hc;simp only[aB.alloc]at ha;obtain⟨zv,i,h1,h2,h3,h4,h5⟩:=yc hz;obtain⟨hs1,hs2⟩:=sG hs;rw[h5]at hs1;have hzl:z.length=s:=by simpa using hs1
   split at ha
   ·rename_i ln cn hln hcn;rw[hln]at hl;rw[hcn]at hk;have hl':=hl.mF;have hk':=hk.mF;simp only[h1,jU,Option.get!_some]at ha;cases hcond:(ln.ble cn&&(cn.mul i.bytes).ble small&&(cn.mul s).ble small&&cn.ble small)with
    |false=>rw[hcond]at ha;cases ha
    |true=>
     rw[hcond]at ha;simp only[cond_true,aA,cO]at ha;obtain⟨rfl,rfl⟩:=ha;simp only[eB]at hcond;obtain⟨⟨⟨c1,c2⟩,c3⟩,c4⟩:=hcond;have c1:=mD c1;have c2:=mD c2;have c4:=mD c4;unfold small at c2 c4;have hwl:IntKind.i64.wrap (Int.ofNat ln)=ln:=by
      exact IntWalk.i64_in _ wx
     have hwc:IntKind.i64.wrap (Int.ofNat cn)=cn:=by
      exact IntWalk.i64_in _ wx
     refine Py (t:=e) c1 (aZ.free (yf h4 cn)) (ug (yf h4 cn)) ?_;have Dm:z≠[]:=λe=>by subst e;simp at hzl;omega
     have hbig:¬((i.bytes:Int)*(cn:Int)>281474976710656):=by
      rw[<- Int.natCast_mul,ahy];have c2':cn*i.bytes<=1073741824:=c2;omega
     have hsz:((cn:Int)).toNat=cn:=vm
     have hsz2:((ln:Int)).toNat=ln:=vm
     have hzs:(⟨z⟩:Array Value).size=s:=hzl;simp only[execOp,Instr.makeSlice,dz,fE hu,dD,hl',hk',asInt,asIntOf,eX,Dk h1,hwl,hwc,Int.reducePow];rw[if_neg (by simp only[qM,zh,not_or];omega)];simp only[hsz,hsz2,dz,run_askRoom,dD,mE h5,hzl];by_cases h0:cn*s=0
     ·rw[if_pos h0];have Xg:cn=0:=by
       rcases Nat.mul_eq_zero.1 h0 with hh|hh
       ·exact hh
       ·omega
      subst Xg;have hz0:zeros z 0=[]:=rfl;simp[newRow,hz0,Pz]
     ·rw[if_neg h0];have hzz:zeroOf P e=some zv:=by
       exact mS
      have hrow:=Gb z cn Dm;rw[hzl]at hrow;simp only[dz,Bo hzz,dD,h3,eX,newRow,run_newObj,hrow]
   ·cases ha
  ·cases hc
 ·cases hc
theorem F2.of_map{γ δ:Type}{R:γ->δ->Prop}(f:γ->δ)(l:List γ)(h:∀x∈l,R x (f x)):F2 R l (l.map f):=by
 exact pe
section
variable {dst:Option Tmp} {type:TypeId} {pos:String} {after:Array Edge} {guard:Option (Nat×Bool)} {c:aB} {ρ ρ':Operand->Value} {f:Nat->Value} {ob:dQ} {v:Value} {h':IH}
variable{t:TypeId}{parts:Array (Nat×Operand)}
theorem Xh{len:Nat}
 (hc:cop P ⟨dst,.buildSlice t len parts,type,pos,after,guard⟩=some c) (ha:c.alloc ρ=some (f,ob)) (hρ:∀p∈parts.toList,VR β (ρ p.2) (ρ' p.2)):
 uj P β w (execOp ρ' ⟨dst,.buildSlice t len parts,type,pos,after,guard⟩) f ob:=by
 simp only[cop]at hc;split at hc
 ·rename_i e hu;split at hc
  ·rename_i s z hs hz;split at hc
   ·rename_i hle;cases hc;simp only[aB.alloc]at ha;split at ha
    ·rename_i cs hcs;cases ha;obtain⟨zv,i,h1,h2,h3,h4,h5⟩:=yc hz;obtain⟨hs1,hs2⟩:=sG hs;rw[h5]at hs1;have hzl:z.length=s:=by simpa using hs1
     have Dm:z≠[]:=λe=>by subst e;simp at hzl;omega
     obtain⟨cs',r1,r2,r3,_⟩:=Ko (β:=β) (place:=λi=>some (i*s,s)) (ρ:=ρ) (ρ':=ρ') parts.toList _ (zeros z len) (zeros z len) cs
      (F2.of_map (λp=>(p.1*s,s,p.2)) _ λp _=>⟨rfl,rfl⟩) (aZ.free (yf h4 len)) (ug (yf h4 len)) hcs hρ
     refine Py (t:=e) (bV _) r2 r3 ?_;have hzz:zeroOf P e=some zv:=by
      exact mS
     have hrow:=Gb z len Dm;rw[hzl]at hrow;have hpl:(parts.map λ(x:Nat×Operand)=>match x with|(i,x)=>(i,ρ' x)).toList=parts.toList.map λp=>(p.1,ρ' p.2):=vm
     simp only[execOp,Instr.buildSlice,dz,fE hu,dD,mE h5,hzl,hpl];rw[if_neg vj];simp only[dz,dD,eX];by_cases h0:len*s=0
     ·have hl0:len=0:=by
       rcases Nat.mul_eq_zero.1 h0 with hh|hh
       ·exact hh
       ·omega
      subst hl0;rw[if_pos h0];have hz0:(Array.map (λx=>(#[]:Array Value)[x%(#[]:Array Value).size]!) (Array.range (0*s)))=⟨zeros z 0⟩:=by rw[h0];exact Pz _
      simp only[dz,eX,dD,hz0,r1,newRow,run_newObj]
     ·rw[if_neg h0];simp only[dz,Bo hzz,dD,h3,eX,hrow,r1,newRow,run_newObj]
    ·cases ha
   ·cases hc
  ·cases hc
 ·cases hc
variable{x:Operand}
theorem Xi(hc:cop P ⟨dst,.move x,type,pos,after,guard⟩=some c)(hr:c.run P ρ h=some (v,h'))(hx:VR β (ρ x) (ρ' x))(hW:WR P β h w):
 Good P β h w (execOp ρ' ⟨dst,.move x,type,pos,after,guard⟩) v h':=by
 simp only[cop,aA]at hc;subst hc;simp only[aB.run,aA,cO]at hr;obtain⟨rfl,rfl⟩:=hr;exact Good.same hW (v':=ρ' x) (by simp[execOp]) hx
theorem Xj(hc:cop P ⟨dst,.assign x,type,pos,after,guard⟩=some c)(hr:c.run P ρ h=some (v,h'))(hx:VR β (ρ x) (ρ' x))(hW:WR P β h w):
 Good P β h w (execOp ρ' ⟨dst,.assign x,type,pos,after,guard⟩) v h':=by
 simp only[cop,aA]at hc;subst hc;simp only[aB.run,aA,cO]at hr;obtain⟨rfl,rfl⟩:=hr;exact Good.same hW (v':=ρ' x) (by simp[execOp]) hx
variable{y:Operand}
theorem Xk{z:Operand}(hc:cop P ⟨dst,.pick x y z,type,pos,after,guard⟩=some c)(hr:c.run P ρ h=some (v,h'))(hx:VR β (ρ x) (ρ' x))(hy:VR β (ρ y) (ρ' y))(hz:VR β (ρ z) (ρ' z))(hW:WR P β h w):
 Good P β h w (execOp ρ' ⟨dst,.pick x y z,type,pos,after,guard⟩) v h':=by
 simp only[cop,aA]at hc;subst hc;simp only[aB.run]at hr;split at hr
 ·rename_i t ht;rw[ht]at hx;have hx':=hx.F9;simp only[aA,cO]at hr;obtain⟨rfl,rfl⟩:=hr;cases t
  ·exact Good.same hW (v':=ρ' z) (by simp[execOp,hx',asBool]) hz
  ·exact Good.same hW (v':=ρ' y) (by simp[execOp,hx',asBool]) hy
 ·cases hr
variable{fs:Array Field}
theorem run_places(hall:fs.toList.all (λf=>(jm P f.type).isSome)=true)(w:World):
 ∃pl:Array (Nat×Nat),(fs.mapM λf=>do pure (f.offset,<- sizeOf f.type):Sem (Array (Nat×Nat))).run P w=.ok pl w/\∀(i:Nat) fd,fs[i]? =some fd->∃s,jm P fd.type=some s/\pl[i]? =some (fd.offset,s):=by
 obtain⟨l⟩:=fs;have key:∀l:List Field,l.all (λf=>(jm P f.type).isSome)=true->
  ∃pl:List (Nat×Nat),(l.mapM λf=>do pure (f.offset,<- sizeOf f.type):Sem (List (Nat×Nat))).run P w=.ok pl w/\∀(i:Nat) fd,l[i]? =some fd->∃s,jm P fd.type=some s/\pl[i]? =some (fd.offset,s):=by
  intro l;induction l with
  |nil=>intro _;exact⟨[],vm,λi fd hi=>by simp at hi⟩
  |cons x l ih=>
   intro hl;simp only[List.all_cons,eB]at hl;obtain⟨pl,h1,h2⟩:=ih hl.2;obtain⟨s,hs⟩:=akR.1 hl.1;refine⟨(x.offset,s)::pl,?_,λi fd hi=>?_⟩
   ·simp only[List.mapM_cons,dz,mE hs,dD,eX,h1]
   ·cases i with
    |zero=>simp at hi;subst hi;exact⟨s,hs,vm⟩
    |succ i=>simp at hi;obtain⟨s',a,b⟩:=h2 i fd hi;exact⟨s',a,AT⟩
 obtain⟨pl,h1,h2⟩:=key l hall;refine⟨⟨pl⟩,?_,λi fd hi=>?_⟩
 ·rw[List.mapM_toArray,Sem.run_map,h1];rfl
 ·obtain⟨s,a,b⟩:=h2 i fd (by simpa using hi);exact⟨s,a,AT⟩
theorem Xl{pl:Array (Nat×Nat)}(hpl:∀(i:Nat) fd,fs[i]? =some fd->∃s,jm P fd.type=some s/\pl[i]? =some (fd.offset,s)):
 ∀(parts:List (Nat×Operand)) (ps:List (Nat×Nat×Operand)),xW P fs parts=some ps->F2 (λ(p:Nat×Operand) (q:Nat×Nat×Operand)=>q.2.2=p.2/\pl[p.1]? =some (q.1,q.2.1)) parts ps:=by
 intro parts;induction parts with
 |nil=>intro ps h;simp[xW]at h;subst h;exact .nil
 |cons p parts ih=>
  intro ps h;obtain⟨i,x⟩:=p;simp only[xW]at h;split at h
  ·rename_i fd r Dn hr;split at h
   ·rename_i s hs;cases h;refine .cons ⟨rfl,?_⟩ (ih r hr);obtain⟨s',a,b⟩:=hpl i fd Dn;rw[hs]at a;cases a;exact b
   ·cases h
  ·cases h
theorem Xm(hc:cop P ⟨dst,.build t parts,type,pos,after,guard⟩=some c)(hr:c.run P ρ h=some (v,h'))(hρ:∀p∈parts.toList,VR β (ρ p.2) (ρ' p.2))(hW:WR P β h w):
 Good P β h w (execOp ρ' ⟨dst,.build t parts,type,pos,after,guard⟩) v h':=by
 have hpl:(parts.map λ(x:Nat×Operand)=>match x with|(i,x)=>(i,ρ' x)).toList=parts.toList.map λp=>(p.1,ρ' p.2):=vm
 simp only[cop]at hc;split at hc
 ·rename_i fs z hu hz;split at hc
  ·rename_i ps hps;cases hc;simp only[aB.run]at hr;split at hr
   ·rename_i cs hcs;simp only[aA,cO]at hr;obtain⟨rfl,rfl⟩:=hr;obtain⟨zv,i,h1,h2,h3,h4,h5⟩:=yc hz;unfold placesOf at hps;split at hps
    ·rename_i hall;obtain⟨pl,q1,q2⟩:=run_places (P:=P) hall w;obtain⟨cs',r1,r2,r3,_⟩:=Ko (β:=β) (place:=λi=>pl[i]?) (ρ:=ρ) (ρ':=ρ') parts.toList ps z z cs (Xl q2 _ _ hps) (aZ.free h4) (ug h4) hcs hρ;refine Good.same hW (v':=.agg ⟨cs'⟩) ?_ (.agg r3 r2);simp only[execOp,Instr.build,dz,zeroValue,Dk h1,h2,dD,eX,h3,fE hu,q1,hpl,r1]
    ·cases hps
   ·cases hr
  ·cases hc
 ·rename_i n e z hu hz;split at hc
  ·rename_i s hs;cases hc;simp only[aB.run]at hr;split at hr
   ·rename_i cs hcs;simp only[aA,cO]at hr;obtain⟨rfl,rfl⟩:=hr;obtain⟨zv,i,h1,h2,h3,h4,h5⟩:=yc hz;obtain⟨hs1,hs2⟩:=sG hs;obtain⟨cs',r1,r2,r3,_⟩:=Ko (β:=β) (place:=λi=>some (i*s,s)) (ρ:=ρ) (ρ':=ρ') parts.toList _ z z cs (F2.of_map (λp=>(p.1*s,s,p.2)) _ λp _=>⟨rfl,rfl⟩) (aZ.free h4) (ug h4) hcs hρ;refine Good.same hW (v':=.agg ⟨cs'⟩) ?_ (.agg r3 r2);simp only[execOp,Instr.build,dz,zeroValue,Dk h1,h2,dD,eX,h3,fE hu,mE hs1,hpl,r1]
   ·cases hr
  ·cases hc
 ·cases hc
theorem Xn(hc:cop P ⟨dst,.load t x,type,pos,after,guard⟩=some c)(hr:c.run P ρ h=some (v,h'))(hx:VR β (ρ x) (ρ' x))(hW:WR P β h w):
 Good P β h w (execOp ρ' ⟨dst,.load t x,type,pos,after,guard⟩) v h':=by
 simp only[cop]at hc;split at hc
 ·rename_i hagg;cases hs:jm P t with
  |none=>simp[hs]at hc
  |some n=>
   simp only[hs,jU,aA]at hc;subst hc;simp only[aB.run]at hr;split at hr
   ·rename_i i o ha;rw[ha]at hx;obtain⟨g,hg,hx'⟩:=hx.uk;split at hr
    ·rename_i cs hcs;simp only[aA,cO]at hr;obtain⟨rfl,rfl⟩:=hr;obtain⟨blk,hb,hl⟩:=Bq hcs;obtain⟨l1,l2,l',l3,l4⟩:=F7 hW hg hb hl;obtain⟨d,hd⟩:=Pp hagg;refine Good.same hW (v':=.agg ⟨l'⟩) ?_ (.agg l2 l3);have:=Kj (P:=P) (n:=n) (by rw[l3.length,l1]) l4;simp[execOp,Instr.loadAt,Instr.sureAddr,hx',loadVar,Bp hd,hagg,mE hs,this]
    ·cases hr
   ·cases hr
 ·rename_i hagg;split at hc
  ·rename_i d hd;cases hc;simp only[aB.run]at hr;split at hr
   ·rename_i i o ha;rw[ha]at hx;obtain⟨g,hg,hx'⟩:=hx.uk;split at hr
    ·rename_i u hu0;simp only[aA,cO]at hr;obtain⟨rfl,rfl⟩:=hr;obtain⟨cs,hcs,hu⟩:=Ps hu0;have h7:∀(j:Nat) v,cs[j]? =some v->∃v',w.cell? ⟨g.b,g.off+j,none⟩=some v'/\VR β v v':=by
      rcases hcs with hcs|hcs
      ·obtain⟨_,_,_,_,_,h7⟩:=hW.obj i g _ hg hcs;exact h7
      ·obtain⟨_,_,_,h7⟩:=hW.obj i g _ hg hcs;exact h7
     rw[ql]at hu;obtain⟨v',a,b⟩:=h7 _ _ hu;refine Good.same hW (v':=v') ?_ b;have Kq:jL P t=false:=by simpa using hagg
     simp[execOp,Instr.loadAt,Instr.sureAddr,hx',loadVar,Bp hd,Kq,a]
    ·cases hr
   ·cases hr
  ·cases hc
theorem Xo(hc:cop P ⟨dst,.store t x y,type,pos,after,guard⟩=some c)(hr:c.run P ρ h=some (v,h'))(hx:VR β (ρ x) (ρ' x))(hy:VR β (ρ y) (ρ' y))(hW:WR P β h w):
 Good P β h w (execOp ρ' ⟨dst,.store t x y,type,pos,after,guard⟩) v h':=by
 simp only[cop]at hc;cases hs:jm P t with
 |none=>simp[hs]at hc
 |some n=>
  simp only[hs,jU,aA]at hc;subst hc;simp only[aB.run]at hr;split at hr
  ·rename_i i o vs ha hv;rw[ha]at hx;obtain⟨g,hg,hx'⟩:=hx.uk;cases hb:Nat.beq (iF vs) n with
   |false=>rw[hb]at hr;cases hr
   |true=>
    rw[hb]at hr;simp only[cond_true]at hr;split at hr
    ·rename_i h1 hst;simp only[aA,cO]at hr;obtain⟨rfl,rfl⟩:=hr;obtain⟨c1,vs',c2,c3⟩:=hy.cells hv;obtain⟨m1,m2,m3⟩:=Kl hW hg hst c3 c1;refine⟨.skip,_,β,undef,?_,.inr ⟨rfl,rfl⟩,.dO _,m2,m3⟩;have hlen:vs'.length=n:=by rw[c3.length,<- wJ];exact p9 hb
     have hsz:((ρ' y).cells.size≠n)=False:=by simp[c2,hlen]
     simp[execOp,Instr.storeAt,Instr.sureAddr,hx',storeVar,mE hs,hsz,c2,m1 0 rfl,hlen]
    ·cases hr
  ·cases hr
end
end Go.Ideal
namespace Go.Ideal
variable {P:Program} {β:aC} {h:IH} {w:World}
section
variable {dst:Option Tmp} {type:TypeId} {pos:String} {after:Array Edge} {guard:Option (Nat×Bool)} {c:aB} {ρ ρ':Operand->Value} {v:Value} {h':IH}
variable{x:Operand}
theorem Xp(hc:cop P ⟨dst,.nilCheck x,type,pos,after,guard⟩=some c)(hr:c.run P ρ h=some (v,h'))(hx:VR β (ρ x) (ρ' x))(hW:WR P β h w):
 Good P β h w (execOp ρ' ⟨dst,.nilCheck x,type,pos,after,guard⟩) v h':=by
 simp only[cop,aA]at hc;subst hc;simp only[aB.run]at hr;split at hr<;>simp only[aA,cO,reduceCtorEq]at hr
 ·rename_i a ha;obtain⟨rfl,rfl⟩:=hr;rw[ha]at hx;refine Good.same hW (v':=ρ' x) ?_ hx;have:∃a',ρ' x=.pointer (some a'):=by
   generalize ρ' x=u at hx;cases hx with|ptr hi=>exact⟨_,rfl⟩
  obtain⟨a',e⟩:=this;simp[execOp,e]
 ·rename_i t u ha;obtain⟨rfl,rfl⟩:=hr;rw[ha]at hx;refine Good.same hW (v':=ρ' x) ?_ hx;obtain⟨u',_,e⟩:=hx.zH;simp[execOp,e]
 ·rename_i f first captured ha
  exact fN
 ·rename_i t n first captured ha
  exact fN
 ·rename_i l first captured ha
  exact fN
theorem af2(a b:Int):leZ a b=decide (a<=b):=by
 cases a<;>cases b<;>simp only[leZ]
 ·rename_i x y;rw[uQ];simp[uR]
 ·rename_i x y;simp;omega
 ·rename_i x y;simp;omega
 ·rename_i x y;rw[uQ];simp[uR];omega
theorem Dp(a b:Int):Bc a b=(a==b):=by
 cases a<;>cases b<;>simp only[Bc]
 ·rename_i x y;rw[uQ];simp[Nat.beq_eq];omega
 ·rfl
 ·rfl
 ·rename_i x y;rw[uQ];simp[Nat.beq_eq]
theorem PD(a b:Int):Pd a b=a+b:=by cases a<;>cases b<;>rfl
theorem PE(a b:Int):J6 a b=a - b:=by
 cases a<;>cases b<;>simp only[J6]
 rename_i x y;cases hb:Nat.ble y x with
 |true=>
  have:=mD hb;show Int.ofNat (x - y)=_;simp;omega
 |false=>
  have:¬y<=x:=λhh=>by rw[Fv hh]at hb;cases hb
  show Int.negSucc ((y - x).pred)=_;simp[Int.negSucc_eq,Nat.pred_eq_sub_one];omega
theorem Kt(k:IntKind)(n:Int):C8 k n=k.wrap n:=by
 have hmax:J5=9223372036854775807:=rfl;have key:∀n:Int, -9223372036854775808<=n/\n<=9223372036854775807->n=IntKind.i64.wrap n:=λn hn=>(IntWalk.i64_in n hn).symm;unfold C8;split
 ·rename_i m;cases hb:Nat.ble m J5 with
  |true=>have:=mD hb;exact(cond_true _ _).trans (key _ (by rw[Int.ofNat_eq_natCast];omega))
  |false=>exact cond_false _ _
 ·rename_i m;cases hb:Nat.ble m 1000000 with
  |true=>
   have h1:=mD hb;have h2:(-1000001:Int)<=Int.negSucc m:=by rw[Int.negSucc_eq];omega
   have h3:Int.negSucc m<=0:=by rw[Int.negSucc_eq];omega
   exact(cond_true _ _).trans (key _ ⟨Int.le_trans wj h2,Int.le_trans h3 wj⟩)
  |false=>exact cond_false _ _
 ·rfl
variable{k:IntKind}
theorem PG{j:IntKind}(h:uZ j k=true):j=k:=by
 cases j<;>cases k<;>first|rfl|(simp[uZ]at h)
variable{t:TypeId}{op:BinOp}
theorem Xq{a b:Int}{v:Value}(h:pg op k a b=some v)(w:World):(binOp op t (.int k a) (.int k b)).run P w=.ok v w:=by
 unfold pg at h;split at h<;>simp only[aA,reduceCtorEq]at h<;>subst h
 ·simp[binOp,Op.intArith,Kt,PD]
 ·simp[binOp,Op.intArith,Kt,PE]
 ·simp[binOp,Op.intCmp,Dp]
 ·simp[binOp,Op.intCmp,Dp];rfl
 ·exact py
 ·exact py
 ·exact py
 ·exact py
theorem Ku(op:BinOp)(t:TypeId)(x y:Operand)(a b:Value)(w:World)(h1:∀u,a≠.agg u)(h2:¬(a=.nilIface/\b=.nilIface)):(eqGuard op t x y a b).run P w=.ok () w:=by
 cases op<;>first
  |rfl
  |(cases a<;>first
   |rfl
   |exact absurd rfl (h1 _)
   |(cases b<;>first
    |rfl
    |exact absurd ⟨rfl,rfl⟩ h2))
theorem Xr(d:Nat){t:TypeId}{a b a' b':Value}{r:Bool}(h:su P t a b=some r)(ha:VR β a a')(hb:VR β b b')(w:World):
 (Op.equalIn (d+1) t a' b').run P w=.ok r w/\(∀u,a'≠.agg u)/\¬(a'=.nilIface/\b'=.nilIface)/\(∀k n,a'≠.int k n)/\(∀s,a'≠.string s)/\(∀k n,a'≠.float k n)/\(∀k n m,a'≠.complex k n m):=by
 cases hu:P.underlying t with
 |none=>unfold su at h;simp[hu]at h
 |some ty=>
  unfold su at h;rw[hu]at h;split at h<;>simp only[aA,reduceCtorEq]at h<;>subst h
  all_goals
   have he:=‹some ty=some _›;obtain rfl:=Option.some.inj he;cases ha<;>cases hb<;>refine⟨?_,vm,vm,vm,vm,vm,vm⟩<;>(unfold Op.equalIn;simp only[dz,fE hu,dD];rfl)
theorem PI{a b a' b':Value}{r:Bool}(h:su P t a b=some r)(ha:VR β a a')(hb:VR β b b')(w:World):
 (Op.equal t a' b').run P w=.ok r w/\(∀u,a'≠.agg u)/\¬(a'=.nilIface/\b'=.nilIface)/\(∀k n,a'≠.int k n)/\(∀s,a'≠.string s)/\(∀k n,a'≠.float k n)/\(∀k n m,a'≠.complex k n m):=
 Xr 9999 h ha hb w
theorem Dq{s:Sem Value}{v:Value}(h:kv P s=some v):dV P s=some v/\bY v=true:=by
 unfold kv at h;split at h
 ·rename_i u hu;cases hf:bY u with
  |true=>rw[hf]at h;simp only[cond_true,aA]at h;subst h;exact⟨hu,hf⟩
  |false=>rw[hf]at h;cases h
 ·cases h
variable{y:Operand}
theorem Xt{yt:TypeId}(hc:cop P ⟨dst,.binOp op t x y yt,type,pos,after,guard⟩=some c)(hr:c.run P ρ h=some (v,h'))(hx:VR β (ρ x) (ρ' x))(hy:VR β (ρ y) (ρ' y))(hW:WR P β h w):
 Good P β h w (execOp ρ' ⟨dst,.binOp op t x y yt,type,pos,after,guard⟩) v h':=by
 simp only[cop,aA]at hc;subst hc;simp only[aB.run]at hr;split at hr
 ·rename_i u hu;simp only[aA,cO]at hr;obtain⟨rfl,rfl⟩:=hr;unfold lU at hu;split at hu
  · -- integers
    rename_i v1 hv1;simp only[aA]at hu;subst hu;split at hv1
    ·rename_i j m k n hm hn;cases hk:uZ j k with
     |false=>rw[hk]at hv1;cases hv1
     |true=>
      rw[hk]at hv1;simp only[cond_true]at hv1;have:=PG hk;subst this;rw[hm]at hx;rw[hn]at hy;have hx':=hx.mF;have hy':=hy.mF;have hfree:bY v1=true:=by
       unfold pg at hv1;split at hv1<;>simp only[aA,reduceCtorEq]at hv1<;>subst hv1<;>rfl
      refine Good.same hW (v':=v1) ?_ (VR.free hfree);simp only[execOp,hx',hy',dz,Ku op t x y (.int j m) (.int j n) w vm vm,dD,Xq hv1,eX]
    ·cases hv1
  ·cases hf:bY (ρ x)&&bY (ρ y)with
   |true=>
    rw[hf]at hu;simp only[cond_true]at hu;simp only[eB]at hf;have hx':=hx.pF hf.1;have hy':=hy.pF hf.2;obtain⟨hu1,hu2⟩:=Dq hu;have hrun:=x8 hu1 w;refine Good.same hW (v':=u) ?_ (VR.free hu2);simp only[execOp,hx',hy'];simp only[dz]at hrun⊢;rw[hrun];rfl
   |false=>
    rw[hf]at hu;simp only[cond_false]at hu;have PK:∀(a b:Value),(∀k n,a≠.int k n)->(∀s,a≠.string s)->(∀k n,a≠.float k n)->(∀k n m,a≠.complex k n m)->
     binOp .eql t a b=(do pure (.bool (<- Op.equal t a b)))/\binOp .neq t a b=(do pure (.bool (!(<- Op.equal t a b)))):=by
     intro a b h1 h2 h3 h4;constructor<;>unfold binOp<;>cases a<;>first|rfl|exact absurd rfl (h1 _ _)|exact absurd rfl (h2 _)|exact absurd rfl (h3 _ _)|exact absurd rfl (h4 _ _ _)
    split at hu
    ·split at hu
     ·rename_i r hr2;simp only[aA]at hu;subst hu;obtain⟨e1,e2,e3,e4,e5,e6,e7⟩:=PI hr2 hx hy w;refine Good.same hW (v':=.bool r) ?_ (.bool r);simp only[execOp,dz,Ku _ t x y _ _ w e2 e3,dD,(PK _ _ e4 e5 e6 e7).1,e1,eX]
     ·cases hu
    ·split at hu
     ·rename_i r hr2;simp only[aA]at hu;subst hu;obtain⟨e1,e2,e3,e4,e5,e6,e7⟩:=PI hr2 hx hy w;refine Good.same hW (v':=.bool !r) ?_ (.bool _);simp only[execOp,dz,Ku _ t x y _ _ w e2 e3,dD,(PK _ _ e4 e5 e6 e7).2,e1,eX]
     ·cases hu
    ·cases hu
 ·cases hr
theorem Xu{op:UnOp}(hc:cop P ⟨dst,.unOp op t x,type,pos,after,guard⟩=some c)(hr:c.run P ρ h=some (v,h'))(hx:VR β (ρ x) (ρ' x))(hW:WR P β h w):
 Good P β h w (execOp ρ' ⟨dst,.unOp op t x,type,pos,after,guard⟩) v h':=by
 simp only[cop,aA]at hc;subst hc;simp only[aB.run]at hr;cases hf:bY (ρ x)with
 |false=>rw[hf]at hr;cases hr
 |true=>
  exact fW
theorem Xv(hc:cop P ⟨dst,.makeInterface t x,type,pos,after,guard⟩=some c)(hr:c.run P ρ h=some (v,h'))(hx:VR β (ρ x) (ρ' x))(hW:WR P β h w):
 Good P β h w (execOp ρ' ⟨dst,.makeInterface t x,type,pos,after,guard⟩) v h':=by
 simp only[cop]at hc;split at hc
 ·cases hc
 ·rename_i d hni hu;cases hc;simp only[aB.run,aA,cO]at hr;obtain⟨rfl,rfl⟩:=hr;refine Good.same hW (v':=.iface t (ρ' x)) ?_ (.iface t hx);simp only[execOp,Instr.makeInterface,dz,fE hu,dD];cases d<;>first|rfl|exact absurd rfl (hni _)
 ·cases hc
variable{fn:Fn}
theorem FR.refl(h:FY fn=true):FR β fn fn:=by
 cases fn with
 |func f=>exact .func f
 |method n=>exact .method n
 |methodOf t n=>exact .methodOf t n
 |via=>simp[FY]at h
 |yield l=>simp[FY]at h
theorem Xw{first captured:Array Operand}(hc:cop P ⟨dst,.makeFunc fn first captured,type,pos,after,guard⟩=some c)(hr:c.run P ρ h=some (v,h'))
 (hf:∀x∈first.toList,VR β (ρ x) (ρ' x)) (hk:∀x∈captured.toList,VR β (ρ x) (ρ' x)) (hW:WR P β h w):
 Good P β h w (execOp ρ' ⟨dst,.makeFunc fn first captured,type,pos,after,guard⟩) v h':=by
 simp only[cop]at hc;split at hc
 ·rename_i hfn;cases hc;simp only[aB.run,aA,cO]at hr;obtain⟨rfl,rfl⟩:=hr;refine Good.same hW (v':=.func fn (first.map ρ') (captured.map ρ')) (by simp[execOp,Instr.makeFunc]) ?_;have e1:first.map ρ'=⟨first.toList.map ρ'⟩:=by apply Array.ext';rw[JK]
  have e2:captured.map ρ'=⟨captured.toList.map ρ'⟩:=by apply Array.ext';rw[JK]
  rw[e1,e2];exact .func (FR.refl hfn) (aZ.of_map hf) (aZ.of_map hk)
 ·cases hc
variable{n:Nat}
theorem Xx{a:Addr}{f:Field}(hs:jm P f.type=some n)(hn:0<n)(w:World):(fieldPlace a f).run P w=.ok (a.add f.offset) w:=by
 simp only[fieldPlace,dz,mE hs,dD];rw[if_neg vj];rfl
variable{f:Nat}
theorem Xy{s:TypeId}(hc:cop P ⟨dst,.fieldAddr s x f,type,pos,after,guard⟩=some c)(hr:c.run P ρ h=some (v,h'))(hx:VR β (ρ x) (ρ' x))(hW:WR P β h w):
 Good P β h w (execOp ρ' ⟨dst,.fieldAddr s x f,type,pos,after,guard⟩) v h':=by
 simp only[cop]at hc;split at hc
 ·rename_i fs hu;split at hc
  ·rename_i fd Dn;cases hs:mY P fd.type with
   |none=>simp[hs]at hc
   |some n=>
    simp only[hs,jU,aA]at hc;subst hc;obtain⟨hs1,hs2⟩:=sG hs;simp only[aB.run]at hr;split at hr
    ·rename_i i o ha;rw[ha]at hx;obtain⟨g,hg,hx'⟩:=hx.uk;simp only[aA,cO]at hr;obtain⟨rfl,rfl⟩:=hr;refine Good.same hW (v':=.pointer (some ⟨g.b,g.off+(o+fd.offset),none⟩)) ?_ (.ptr hg);simp only[execOp,Instr.fieldAt,dz,fE hu,dD,Dn,hx',Instr.sureAddr,eX,Xx hs1 hs2,addr_add,qb]
    ·cases hr
  ·cases hc
 ·cases hc
theorem PL{cs cs':List Value}{off:Nat}{d:TypeDesc}(hd:P.underlying t=some d)(hs:jm P t=some n)(hv:aZ β cs cs')(hall:cs.all cellV=true){v:Value}
 (hr:(match jL P t with
   |true=>match jd (jE cs off) n with
    |some l=>some (.agg ⟨l⟩:Value)
    |none=>none
   |false=>jD cs off)=some v) (w:World):∃v',(part t ⟨cs'⟩ off).run P w=.ok v' w/\VR β v v':=by
 cases hagg:jL P t with
 |true=>
  rw[hagg]at hr;simp only at hr;rw[sD,qV]at hr;split at hr
  ·rename_i l hl;split at hl
   ·rename_i hn;cases hl;simp only[aA]at hr;subst hr;refine⟨.agg ⟨(cs'.drop off).take n⟩,?_,.agg ?_ ((hv.drop off).take n)⟩
    ·simp only[part,dz,Bp hd,hagg,dD,if_true,mE hs,eX];congr 2;apply Array.ext';simp[Array.toList_extract,OO]
    ·rw[kR]at hall⊢;exact λx hx=>hall x (List.mem_of_mem_drop (OH hx))
   ·cases hl
  ·cases hr
 |false=>
  rw[hagg]at hr;simp only at hr;rw[ql]at hr;obtain⟨v',h1,h2⟩:=hv.get hr;refine⟨v',?_,h2⟩;simp only[part,dz,Bp hd,hagg,dD,uS,if_false];have:(⟨cs'⟩:Array Value)[off]? =some v':=ya
  simp[this]
theorem Xz(hc:cop P ⟨dst,.field t x f,type,pos,after,guard⟩=some c)(hr:c.run P ρ h=some (v,h'))(hx:VR β (ρ x) (ρ' x))(hW:WR P β h w):
 Good P β h w (execOp ρ' ⟨dst,.field t x f,type,pos,after,guard⟩) v h':=by
 simp only[cop]at hc;split at hc
 ·rename_i fs hu;split at hc
  ·rename_i fd Dn;split at hc
   ·rename_i n d hs hd;cases hc;simp only[aB.run]at hr;split at hr
    ·rename_i cs ha;rw[ha]at hx;obtain⟨cs',h1,h2,hx'⟩:=hx.Km;have hr':h'=h/\(match jL P fd.type with
      |true=>match jd (jE cs fd.offset) n with
       |some l=>some (.agg ⟨l⟩:Value)
       |none=>none
      |false=>jD cs fd.offset)=some v:=by
      cases hagg:jL P fd.type with
      |true=>
       exact ux
      |false=>
       exact ux
     obtain⟨rfl,hr2⟩:=hr';obtain⟨v',p1,p2⟩:=PL hd hs h1 h2 hr2 w;refine Good.same hW (v':=v') ?_ p2;simp only[execOp,Instr.field,dz,fE hu,dD,Dn,hx',asAgg,eX,p1]
    ·cases hr
   ·cases hc
  ·cases hc
 ·cases hc
theorem XA(hc:cop P ⟨dst,.indexAddr t x y,type,pos,after,guard⟩=some c)(hr:c.run P ρ h=some (v,h'))(hx:VR β (ρ x) (ρ' x))(hy:VR β (ρ y) (ρ' y))(hW:WR P β h w):
 Good P β h w (execOp ρ' ⟨dst,.indexAddr t x y,type,pos,after,guard⟩) v h':=by
 simp only[cop]at hc;split at hc
 ·rename_i n e hu;cases hs:mY P e with
  |none=>simp[hs]at hc
  |some s=>
   simp only[hs,jU,aA]at hc;subst hc;obtain⟨hs1,hs2⟩:=sG hs;simp only[aB.run]at hr;split at hr
   ·rename_i b o k i ha hi;rw[ha]at hx;rw[hi]at hy;obtain⟨g,hg,hx'⟩:=hx.uk;have hy':=hy.mF;cases hb:Nat.blt i n with
    |false=>rw[hb]at hr;cases hr
    |true=>
     rw[hb]at hr;simp only[cond_true,aA,cO]at hr;obtain⟨rfl,rfl⟩:=hr;have hlt:i<n:=yb
     refine Good.same hW (v':=.pointer (some ⟨g.b,g.off+Nat.add o (Nat.mul i s),none⟩)) ?_ (.ptr hg);simp only[execOp,Instr.indexAt,dz,hy',asIntOf,eX,dD,fE hu,hx',Instr.sureAddr];exact tE
   ·cases hr
 ·rename_i e hu;cases hs:mY P e with
  |none=>simp[hs]at hc
  |some s=>
   simp only[hs,jU,aA]at hc;subst hc;obtain⟨hs1,hs2⟩:=sG hs;simp only[aB.run]at hr;split at hr
   ·rename_i b o f n k' k i ha hi;rw[ha]at hx;rw[hi]at hy;obtain⟨g,a,c',hg,hx',ha1,ha2,hn,hcc,hoff,_⟩:=hx.nI;have hy':=hy.mF;cases hb:Nat.blt i n with
    |false=>rw[hb]at hr;cases hr
    |true=>
     rw[hb]at hr;simp only[cond_true,aA,cO]at hr;obtain⟨rfl,rfl⟩:=hr;have hlt:i<n:=yb
     have hae:a=⟨g.b,g.off+o,none⟩:=by
      rcases hoff with h0|⟨h0,ha2⟩
      ·omega
      ·obtain⟨ab,ao,as⟩:=a;simp at ha1 ha2 h0;subst ha1 ha2 h0;rfl
     refine Good.same hW (v':=.pointer (some ⟨g.b,g.off+Nat.add o (Nat.mul i s),none⟩)) ?_ (.ptr hg);simp only[execOp,Instr.indexAt,dz,hy',asIntOf,eX,dD,fE hu,hx',hae];exact tE
   ·cases hr
 ·cases hc
theorem XB{i:Nat}(hc:cop P ⟨dst,.extract x i,type,pos,after,guard⟩=some c)(hr:c.run P ρ h=some (v,h'))(hx:VR β (ρ x) (ρ' x))(hW:WR P β h w):
 Good P β h w (execOp ρ' ⟨dst,.extract x i,type,pos,after,guard⟩) v h':=by
 simp only[cop,aA]at hc;subst hc;simp only[aB.run]at hr;split at hr
 ·rename_i vs ha;split at hr
  ·rename_i u hu;simp only[aA,cO]at hr;obtain⟨rfl,rfl⟩:=hr;rw[ha]at hx;rw[ql]at hu;generalize hy:ρ' x=y at hx;cases hx with
   |dO=>simp at hu
   |tuple hl=>
    obtain⟨v',h1,h2⟩:=hl.get hu;refine Good.same hW (v':=v') ?_ h2;rename_i l';have:(⟨l'⟩:Array Value)[i]? =some v':=ya
    simp[execOp,Instr.extract,hy,this]
  ·cases hr
 ·cases hr
end
end Go.Ideal
namespace Go.Ideal
variable {P:Program} {β:aC} {h:IH} {w:World}
variable{m i:Nat}{v:Value}
theorem zJ(h:upTo m v=some i):∃k,v=.int k i/\i<=m:=by
 unfold upTo at h;split at h
 ·rename_i k n;cases hb:Nat.ble n m with
  |true=>rw[hb]at h;simp only[cond_true,aA]at h;subst h;exact⟨k,rfl,mD hb⟩
  |false=>rw[hb]at h;cases h
 ·cases h
theorem wN{y:Nat}{code:BoundsCode}(h:upTo m v=some i)(hm:m<=y)(w:World):(Instr.sliceBound v y code).run P w=.ok i w:=by
 obtain⟨k,rfl,hle⟩:=zJ h;simp only[Instr.sliceBound,asIntOf,dz,eX,dD];rw[if_pos ⟨vj,vj⟩];simp
variable{len cap l hh:Nat}{lo hi mx:Option Value}
theorem Dr(h:bounds? len cap lo hi mx=some (l,hh,m)):
 (∀v,mx=some v->upTo cap v=some m)/\(mx=none->m=cap)/\(∀v,hi=some v->upTo m v=some hh)/\(hi=none->mx=none/\hh=len)/\
 (∀v,lo=some v->upTo hh v=some l)/\(lo=none->l=0):=by
 unfold bounds? at h;split at h
 ·cases h
 ·rename_i m' hm;split at h
  ·cases h
  ·rename_i h1 hhi;split at h
   ·cases h
   ·rename_i l1 hlo;simp only[aA,cO]at h;obtain⟨rfl,rfl,rfl⟩:=h;refine⟨?_,?_,?_,?_,?_,?_⟩
    ·rintro v rfl;exact hm
    ·rintro rfl;simp at hm;exact hm.symm
    ·rintro v rfl;exact hhi
    ·rintro rfl;cases mx with
     |some v=>simp at hhi
     |none=>simp at hhi;exact⟨rfl,hhi.symm⟩
    ·rintro v rfl;exact hlo
    ·rintro rfl;simp at hlo;exact hlo.symm
theorem Kv(h:bounds? len cap lo hi mx=some (l,hh,m))(hlc:len<=cap):l<=hh/\hh<=m/\m<=cap:=by
 obtain⟨h1,h2,h3,h4,h5,h6⟩:=Dr h;refine⟨?_,?_,?_⟩
 ·cases lo with
  |some v=>obtain⟨_,_,hle⟩:=zJ (h5 v rfl);exact hle
  |none=>rw[h6 rfl];exact bQ _
 ·cases hi with
  |some v=>obtain⟨_,_,hle⟩:=zJ (h3 v rfl);exact hle
  |none=>obtain⟨q1,q2⟩:=h4 rfl;rw[q2,h2 q1];exact hlc
 ·cases mx with
  |some v=>obtain⟨_,_,hle⟩:=zJ (h1 v rfl);exact hle
  |none=>rw[h2 rfl];exact bV _
theorem Gc{Dt:Bool}{cap':Nat}(h:bounds? len cap lo hi mx=some (l,hh,m))(hc:cap<=cap')(w:World):
 (Instr.sliceBounds Dt len cap' lo hi mx).run P w=.ok (l,hh,if mx.isSome then m else cap') w:=by
 obtain⟨h1,h2,h3,h4,h5,h6⟩:=Dr h;unfold Instr.sliceBounds;cases mx with
 |some v=>
  have h1:=h1 v rfl;cases hi with
  |none=>exact absurd (h4 rfl).1 vm
  |some u=>
   have h3:=h3 u rfl;cases lo with
   |none=>have h6:=h6 rfl;subst h6;simp[wN h1 hc,wN h3 (bV _)]
   |some x=>have h5:=h5 x rfl;simp[wN h1 hc,wN h3 (bV _),wN h5 (bV _)]
 |none=>
  have h2:=h2 rfl;subst h2;cases hi with
  |none=>
   obtain⟨_,rfl⟩:=h4 rfl;cases lo with
   |none=>have h6:=h6 rfl;subst h6;simp
   |some x=>have h5:=h5 x rfl;simp[wN h5 (bV _)]
  |some u=>
   have h3:=h3 u rfl;cases lo with
   |none=>have h6:=h6 rfl;subst h6;simp[wN h3 hc]
   |some x=>have h5:=h5 x rfl;simp[wN h3 hc,wN h5 (bV _)]
theorem Kw(h:bounds? len cap lo hi mx=some (l,hh,m)):(if mx.isSome then m else cap)=m:=by
 obtain⟨_,h2,_⟩:=Dr h;cases mx with
 |some v=>rfl
 |none=>rw[h2 rfl];rfl
theorem Ky{lo hi mx:Option Operand}{ρ ρ':Operand->Value}{r:Nat×Nat×Nat}(h:bounds? len cap (jf ρ lo) (jf ρ hi) (jf ρ mx)=some r)
 (hl:∀x,lo=some x->VR β (ρ x) (ρ' x)) (hh:∀x,hi=some x->VR β (ρ x) (ρ' x)) (hm:∀x,mx=some x->VR β (ρ x) (ρ' x)):
 lo.map ρ'=jf ρ lo/\hi.map ρ'=jf ρ hi/\mx.map ρ'=jf ρ mx:=by
 obtain⟨l,hi2,m⟩:=r;obtain⟨h1,_,h3,_,h5,_⟩:=Dr h;refine⟨?_,?_,?_⟩
 ·cases lo with
  |none=>rfl
  |some x=>
   obtain⟨k,hk,_⟩:=zJ (h5 _ rfl);have:=hl x rfl;rw[hk]at this;simp[jf,hk,this.mF]
 ·cases hi with
  |none=>rfl
  |some x=>
   obtain⟨k,hk,_⟩:=zJ (h3 _ rfl);have:=hh x rfl;rw[hk]at this;simp[jf,hk,this.mF]
 ·cases mx with
  |none=>rfl
  |some x=>
   obtain⟨k,hk,_⟩:=zJ (h1 _ rfl);have:=hm x rfl;rw[hk]at this;simp[jf,hk,this.mF]
section
variable {dst:Option Tmp} {type:TypeId} {pos:String} {after:Array Edge} {guard:Option (Nat×Bool)} {c:aB} {ρ ρ':Operand->Value} {v:Value} {h':IH}
theorem XC{t:TypeId}{x:Operand}{lo hi mx:Option Operand}(hc:cop P ⟨dst,.slice t x lo hi mx,type,pos,after,guard⟩=some c)(hr:c.run P ρ h=some (v,h'))(hx:VR β (ρ x) (ρ' x))
 (hl:∀x,lo=some x->VR β (ρ x) (ρ' x)) (hh:∀x,hi=some x->VR β (ρ x) (ρ' x)) (hm:∀x,mx=some x->VR β (ρ x) (ρ' x)) (hW:WR P β h w):
 Good P β h w (execOp ρ' ⟨dst,.slice t x lo hi mx,type,pos,after,guard⟩) v h':=by
 simp only[cop]at hc;split at hc
 · -- a string
   rename_i hu;cases hc;simp only[aB.run]at hr;split at hr
   ·rename_i s hs;split at hr
    ·rename_i b hb;split at hr
     ·rename_i u hu2;simp only[aA,cO]at hr;obtain⟨rfl,rfl⟩:=hr;obtain⟨h1,h2⟩:=Dq hu2;rw[hs]at hx;have hx':=hx.zG;obtain⟨e1,e2,e3⟩:=Ky hb hl hh hm;refine Good.same hW (v':=u) ?_ (VR.free h2);simp only[execOp,Instr.sliceAt,dz,fE hu,dD,hx',e1,e2,e3,x8 h1 w,eX]
     ·cases hr
    ·cases hr
   ·cases hr
 · -- an array
   rename_i n e hu;cases hs:mY P e with
   |none=>simp[hs]at hc
   |some s=>
    simp only[hs,jU,aA]at hc;subst hc;obtain⟨hs1,hs2⟩:=sG hs;simp only[aB.run]at hr;split at hr
    ·rename_i i o ha;split at hr
     ·rename_i l h1 m hb;simp only[aA,cO]at hr;obtain⟨rfl,rfl⟩:=hr;rw[ha]at hx;obtain⟨g,hg,hx'⟩:=hx.uk;obtain⟨e1,e2,e3⟩:=Ky hb hl hh hm;have b1:=Gc (P:=P) (Dt:=false) hb (bV _) w;rw[Kw hb]at b1;have hlen:=Kv hb (bV _);refine Good.same hW (v':=.slice (some (if m=l then(⟨g.b,g.off+o,none⟩:Addr)else(⟨g.b,g.off+o,none⟩:Addr).add (l*s))) (h1 - l) (m - l)) ?_ ?_
      ·simp only[execOp,Instr.sliceAt,dz,fE hu,dD,hx',Instr.sureAddr,eX,e1,e2,e3,b1,mE hs1]
      ·refine .ak hg ?_ AW ?_
       ·split<;>simp[addr_add]
       ·by_cases hml:m=l
        ·left;show m - l=0;omega
        ·right;rw[if_neg hml,addr_add];simp[qb]
     ·cases hr
    ·cases hr
 · -- a slice
   rename_i e hu;cases hs:mY P e with
   |none=>simp[hs]at hc
   |some s=>
    simp only[hs,jU,aA]at hc;subst hc;obtain⟨hs1,hs2⟩:=sG hs;simp only[aB.run]at hr;split at hr
    ·rename_i a len cap ha;split at hr
     ·rename_i l h1 m hb;rw[ha]at hx;obtain⟨e1,e2,e3⟩:=Ky hb hl hh hm;split at hr
      · -- nil
        simp only[aA,cO]at hr;obtain⟨rfl,rfl⟩:=hr;have hx':ρ' x=.slice none len cap:=by generalize ρ' x=y at hx;cases hx;rfl
        have b1:=Gc (P:=P) (Dt:=true) hb (bV _) w;rw[Kw hb]at b1;refine Good.same hW (v':=.slice none (h1 - l) (m - l)) ?_ (.sl0 _ _);simp only[execOp,Instr.sliceAt,Instr.slice,dz,fE hu,dD,hx',e1,e2,e3,b1,mE hs1,eX];split<;>rfl
      · -- of known capacity
        rename_i i o;simp only[aA,cO]at hr;obtain⟨rfl,rfl⟩:=hr;obtain⟨g,a',c',hg,hx',ha1,ha2,hn,hcc,hoff,hkind⟩:=hx.nI;have hc':c'=cap:=by
         rcases hkind with hk|hk
         ·exact hk.2
         ·have:=hk.1;simp at this;omega
        subst hc';have b1:=Gc (P:=P) (Dt:=true) hb (bV _) w;rw[Kw hb]at b1;have hlen:=Kv hb hn;obtain⟨ab,ao,as⟩:=a';simp only at ha1 hoff;subst ha1;refine Good.same hW (v':=.slice (some (if m=l then(⟨g.b,ao,as⟩:Addr)else(⟨g.b,ao,as⟩:Addr).add (l*s))) (h1 - l) (m - l)) ?_ ?_
        ·simp only[execOp,Instr.sliceAt,Instr.slice,dz,fE hu,dD,hx',e1,e2,e3,b1,mE hs1,eX];split<;>rfl
        ·refine .ak hg ?_ AW ?_
         ·split
          ·rfl
          ·simp only[Addr.add];split<;>rfl
         ·by_cases hml:m=l
          ·left;show m - l=0;omega
          ·right;rw[if_neg hml];rcases hoff with h0|⟨h0,hs0⟩
           ·omega
           ·subst h0 hs0;rw[addr_add];simp[qb]
      · -- grown
        rename_i i o k;cases hbk:Nat.beq (Nat.succ k) s with
        |false=>rw[hbk]at hr;cases hr
        |true=>
         rw[hbk]at hr;have hks:k+1=s:=p9 hbk;simp only[cond_true,aA,cO]at hr;obtain⟨rfl,rfl⟩:=hr;obtain⟨g,a',c',hg,hx',ha1,ha2,hn,hcc,hoff,hkind⟩:=hx.nI;obtain⟨hsz,hpos,hl1,hl2,ha2⟩:g.sz=s/\0<g.sz/\o+cap*g.sz=g.len/\g.off+o+c'*g.sz=g.top/\a'.spot=none:=by
          rcases hkind with hk|hk
          ·have:=hk.1;simp at this
          ·have:=hk.1;simp at this;exact⟨vj,hk.2.1,hk.2.2.1,hk.2.2.2⟩
         have b1:=Gc (P:=P) (Dt:=true) hb hcc w;have hlen:=Kv hb hn;have Kz:c'=0\/a'.off=g.off+o:=hoff.imp id (·.1);clear hoff;obtain⟨ab,ao,as⟩:=a';simp only at ha1 ha2 Kz;subst ha1 ha2;have hrun:∀m',(Instr.sliceBounds true len c' (jf ρ lo) (jf ρ hi) (jf ρ mx)).run P w=.ok (l,h1,m') w->
          (execOp ρ' ⟨dst,.slice t x lo hi mx,type,pos,after,guard⟩).run P w=.ok (.value (.slice (some (if m'=l then(⟨g.b,ao,none⟩:Addr)else(⟨g.b,ao,none⟩:Addr).add (l*s))) (h1 - l) (m' - l))) w:=by
          intro m' hm';simp only[execOp,Instr.sliceAt,Instr.slice,dz,fE hu,dD,hx',e1,e2,e3,hm',mE hs1,eX];split<;>rfl
         cases hmx:mx with
         |some xx=>
          subst hmx;have hmm:(if(jf ρ (some xx)).isSome then m else c')=m:=rfl;rw[hmm]at b1;refine Good.same hW (hrun m b1) ?_;refine .ak hg ?_ AW ?_
          ·split<;>simp[addr_add]
          ·by_cases hml:m=l
           ·left;show m - l=0;omega
           ·right;rw[if_neg hml,addr_add];rcases Kz with h0|h0
            ·omega
            ·have h0':ao=g.off+o:=h0;refine⟨?_,rfl⟩;show ao+l*s=g.off+(o+l*s)
             omega
         |none=>
          subst hmx;have hmm:(if(jf ρ (none:Option Operand)).isSome then m else c')=c':=rfl;rw[hmm]at b1;have XD:m=cap:=by
           obtain⟨_,q1,_⟩:=Dr hb;exact q1 rfl
          subst XD;refine Good.same hW (hrun c' b1) ?_;have XE:(some (Nat.succ k):Option Nat)=some g.sz:=by rw[hsz,<- hks]
          simp only[XE];have hlc:l*s+(m - l)*s=m*s:=by rw[<- rW];congr 1;omega
          have ai0:l*s+(c' - l)*s=c'*s:=by rw[<- rW];congr 1;omega
          refine .pE hg ?_ ?_ AW hpos ?_ ?_ (by show m - l<=c' - l;omega) ?_
          ·split<;>simp[addr_add]
          ·split<;>simp[addr_add]
          ·show o+l*s+(m - l)*g.sz=g.len;rw[hsz]at hl1⊢;omega
          ·show g.off+(o+l*s)+(c' - l)*g.sz=g.top;rw[hsz]at hl2⊢;omega
          ·by_cases hml:c'=l
           ·left;omega
           ·right;rw[if_neg hml,addr_add];rcases Kz with h0|h0
            ·omega
            ·subst h0;simp[qb]
      ·cases hr
     ·cases hr
    ·cases hr
 ·cases hc
end
end Go.Ideal
namespace Go.Ideal
variable {P:Program} {β:aC} {h:IH} {w:World}
theorem gY{α γ:Type}(s:Sem α)(f:α->Sem γ):dV P (s>>=f)=(dV P s).bind λa=>dV P (f a):=by
 show dV P (Sem.bind s f)=_;induction s with
 |pure a=>rfl
 |program k ih=>exact ih _
 |mark m k ih=>exact ih
 |_=>rfl
variable{kt:TypeId}{k:Value}
theorem KA(h:qO P kt k=true)(b:Bool)(w:World):(Instr.checkKey b 10000 kt k).run P w=.ok () w:=by
 unfold qO at h;simp only[eB]at h;obtain⟨_,h⟩:=h;split at h
 ·rename_i x y hx hy;cases b
  ·exact x8 hy w
  ·exact x8 hx w
 ·cases h
theorem KC(h:qO P kt k=true):bY k=true:=by
 unfold qO at h;simp only[eB]at h;exact h.1
inductive Du(β:aC):Option (Nat×Value)->Option (Nat×Value)->Prop
 |none:Du β none none
 |some (i:Nat) {v v':Value} (h:VR β v v'):Du β (some (i,v)) (some (i,v'))
variable{es es':List MapEntry}
theorem XF{kd:TypeDesc}(he:fP β es es'):∀(i:Nat),
 (∀r,Instr.findNow kd k es i=some r->∃r',Instr.findNow kd k es' i=some r'/\Du β r r')/\(Instr.findNow kd k es i=none->Instr.findNow kd k es' i=none):=by
 induction he with
 |nil=>intro i;exact⟨λr hr=>by simp only[Instr.findNow,aA]at hr;subst hr;exact⟨_,rfl,.none⟩,λhr=>by simp[Instr.findNow]at hr⟩
 | @cons e e' l l' hk hf hb hv hl ih=>
   intro i;simp only[Instr.findNow,hk];cases hs:Instr.sameNow kd k e.key with
   |none=>exact⟨λr hr=>(by cases hr),λ_=>rfl⟩
   |some b=>cases b with
    |true=>exact⟨λr hr=>by simp only[aA]at hr;subst hr;exact⟨_,rfl,.some i hv⟩,λhr=>by simp at hr⟩
    |false=>exact ih (i+1)
theorem XG(he:fP β es es')(w:World):∀(i:Nat) r,
 dV P (Instr.findAsking kt k es i)=some r->∃r',(Instr.findAsking kt k es' i).run P w=.ok r' w/\Du β r r':=by
 induction he with
 |nil=>intro i r hr;simp only[Instr.findAsking]at hr;change some none=some r at hr;simp only[aA]at hr;subst hr;exact⟨none,rfl,.none⟩
 | @cons e e' l l' hk hf hb hv hl ih=>
   intro i r hr;simp only[Instr.findAsking,gY]at hr;cases hq:dV P (Op.equal kt k e.key)with
   |none=>rw[hq]at hr;cases hr
   |some b=>
    rw[hq]at hr;simp only[Instr.findAsking,hk,dz,x8 hq w,dD];cases b with
    |true=>
     change some (some (i,e.val))=some r at hr
     simp only[aA]at hr;subst hr;exact⟨_,rfl,.some i hv⟩
    |false=>exact ih (i+1) r hr
theorem PM(he:fP β es es')(w:World){r:Option (Nat×Value)}(hr:sj P kt k es=some r):
 ∃r',(Instr.findKey kt k es').run P w=.ok r' w/\Du β r r':=by
 unfold sj Instr.findKey at hr;rw[gY]at hr;cases hu:P.underlying kt with
 |none=>
  have:dV P (underlying kt)=none:=by simp[underlying,program,dV,hu,bind,Sem.bind,stuck]
  rw[this]at hr;cases hr
 |some d=>
  have:dV P (underlying kt)=some d:=by simp[underlying,program,dV,hu,bind,Sem.bind];rfl
  rw[this]at hr;simp only[iV]at hr;obtain⟨n1,n2⟩:=XF (β:=β) (kd:=d) (k:=k) he 0;simp only[Instr.findKey,dz,fE hu,dD];split at hr
  ·rename_i r1 hr1;change some r1=some r at hr
   simp only[aA]at hr;subst hr;obtain⟨r',h1,h2⟩:=n1 _ hr1;rw[h1];exact⟨r',rfl,h2⟩
  ·rename_i hr1;rw[n2 hr1];exact XG he w 0 r hr
theorem PN{m m':Value}(hW:WR P β h w)(hm:VR β m m')(he:entriesOf m h=some es):
 (m=.map none/\m'=.map none/\es=[])\/∃i g es' clock clock',m=.map (some i)/\h.get i=some (.map es clock)/\β i=some g/\m'=.map (some g.b)/\w.heap[g.b]? =some (.map es' clock')/\clock'=clock/\fP β es es'.toList:=by
 unfold entriesOf at he;split at he
 ·simp only[aA]at he;subst he;left;cases hm;exact⟨rfl,rfl,rfl⟩
 ·rename_i i;split at he
  ·rename_i es1 clock hg;simp only[aA]at he;subst he;obtain⟨g,hb,rfl⟩:=hm.Br;obtain⟨es',h1,h2⟩:=hW.obj i g _ hb hg;exact .inr ⟨i,g,es',clock,clock,rfl,hg,hb,rfl,h1,rfl,h2⟩
  ·cases he
 ·cases he
theorem fP.length{l l':List MapEntry}(he:fP β l l'):l'.length=l.length:=by
 induction he with
 |nil=>rfl
 |cons _ _ _ _ _ ih=>simp[ih]
variable{b:Nat}{o:Obj}
theorem wO(h:w.heap[b]? =some o)(hn:∀c t f,o≠.cells c t f):(getObj b).run P w=.ok o w:=by
 simp only[getObj,Sem.run,h]
theorem KD{o0:Obj}(h:w.heap[b]? =some o0)(hn:∀c t f,o0≠.cells c t f):(setObj b o).run P w=.ok () {w with heap:=w.heap.setIfInBounds b o}:=by
 simp only[setObj,Sem.run,h]
def Dv(ok:Bool)(z:Value):Option (Nat×Value)->Value
 |some (_,v)=>if ok then .tuple #[v,.bool true]else v
 |none=>if ok then .tuple #[z,.bool false]else z
theorem XH{t et:TypeId}(hu:P.underlying t=some (.map kt et)){m k:Value}{es:Array MapEntry}(hm:(m=.map none/\es= #[])\/∃b clock,m=.map (some b)/\w.heap[b]? =some (.map es clock))
 (hck:(Instr.checkKey es.isEmpty 10000 kt k).run P w=.ok () w) {r:Option (Nat×Value)} (hf:(Instr.findKey kt k es.toList).run P w=.ok r w) {z:Value} (hz:zeroOf P et=some z) {ok:Bool}:
 (Instr.lookup t m k ok).run P w=.ok (Dv ok z r) w:=by
 rcases hm with⟨rfl,rfl⟩|⟨b,clock,rfl,hb⟩
 ·simp only[Instr.lookup,dz,fE hu,dD,eX,hck,hf];cases r with
  |none=>simp[Bo hz,Dv]
  |some p=>simp[Dv]
 ·simp only[Instr.lookup,dz,fE hu,dD,eX,wO hb vm,hck,hf];cases r with
  |none=>simp[Bo hz,Dv]
  |some p=>simp[Dv]
section
variable {dst:Option Tmp} {type:TypeId} {pos:String} {after:Array Edge} {guard:Option (Nat×Bool)} {c:aB} {ρ ρ':Operand->Value} {v:Value} {h':IH}
theorem XI{t:TypeId}{m k:Operand}{ok:Bool}(hc:cop P ⟨dst,.lookup t m k ok,type,pos,after,guard⟩=some c)(hr:c.run P ρ h=some (v,h'))(hm:VR β (ρ m) (ρ' m))(hk:VR β (ρ k) (ρ' k))(hW:WR P β h w):
 Good P β h w (execOp ρ' ⟨dst,.lookup t m k ok,type,pos,after,guard⟩) v h':=by
 simp only[cop]at hc;split at hc
 ·rename_i kt et hu;cases hz:zeroOf P et with
  |none=>simp[hz]at hc
  |some z=>
   simp only[hz,jU,aA]at hc;subst hc;obtain⟨_,_,_,Dw⟩:=Bn hz;simp only[aB.run]at hr;split at hr
   ·rename_i u hl;simp only[aA,cO]at hr;obtain⟨rfl,rfl⟩:=hr;unfold zu at hl;split at hl
    ·cases hl
    ·rename_i es hes;cases hck:qO P kt (ρ k)with
     |false=>rw[hck]at hl;cases hl
     |true=>
      rw[hck]at hl;simp only[cond_true]at hl;have hk':=hk.pF (KC hck);cases hf:sj P kt (ρ k) es with
      |none=>rw[hf]at hl;cases hl
      |some r=>
       rw[hf]at hl;obtain⟨es',he1,he2⟩:∃es':Array MapEntry,((ρ' m=.map none/\es'= #[])\/∃b clock,ρ' m=.map (some b)/\w.heap[b]? =some (.map es' clock))/\fP β es es'.toList:=by
        rcases PN hW hm hes with⟨_,h2,h3⟩|⟨i,g,es',clock,clock',_,_,_,h4,h5,_,h6⟩
        ·subst h3;exact⟨#[],.inl ⟨h2,rfl⟩,.nil⟩
        ·exact⟨es',.inr ⟨_,_,h4,h5⟩,h6⟩
       obtain⟨r',f1,f2⟩:=PM he2 w hf;have hrun:=XH (ok:=ok) hu he1 (KA hck _ w) f1 hz;rw[<- hk']at hrun;cases f2 with
       |none=>
        simp only[aA]at hl;refine Good.same hW (wM hrun) ?_;subst hl;cases ok
        ·exact VR.free Dw
        ·exact .tuple (.cons (VR.free Dw) (.cons (.bool _) .nil))
       |some i hv=>
        simp only[aA]at hl;refine Good.same hW (wM hrun) ?_;subst hl;cases ok
        ·exact hv
        ·exact .tuple (.cons hv (.cons (.bool _) .nil))
   ·cases hr
 ·cases hc
end
end Go.Ideal
namespace Go.Ideal
variable {P:Program} {β:aC} {h:IH} {w:World}
variable{l l':List MapEntry}
theorem fP.get(he:fP β l l'){i:Nat}{e:MapEntry}(hi:l[i]? =some e):∃e',l'[i]? =some e'/\e'.key=e.key/\bY e.key=true/\e'.born=e.born/\VR β e.val e'.val:=by
 induction he generalizing i with
 |nil=>simp at hi
 |cons hk hf hb hv hl ih=>
  cases i with
  |zero=>simp at hi;subst hi;exact⟨_,vm,hk,hf,hb,hv⟩
  |succ i=>simp at hi;obtain⟨e',h1,h2⟩:=ih hi;exact⟨e',by simpa using h1,h2⟩
theorem fP.modify(he:fP β l l'){f f':MapEntry->MapEntry}(i:Nat)
 (XJ:∀e e',e'.key=e.key->bY e.key=true->e'.born=e.born->VR β e.val e'.val->(f' e').key=(f e).key/\bY (f e).key=true/\(f' e').born=(f e).born/\VR β (f e).val (f' e').val):
 fP β (l.modify i f) (l'.modify i f'):=by
 induction he generalizing i with
 |nil=>cases i<;>exact .nil
 |cons hk hf hb hv hl ih=>
  cases i with
  |zero=>obtain⟨a,b,c,d⟩:=XJ _ _ hk hf hb hv;exact .cons a b c d hl
  |succ i=>exact .cons hk hf hb hv (ih i)
theorem fP.push(he:fP β l l'){e e':MapEntry}(h1:e'.key=e.key)(h2:bY e.key=true)(h3:e'.born=e.born)(h4:VR β e.val e'.val):fP β (l++[e]) (l'++[e']):=by
 induction he with
 |nil=>exact .cons h1 h2 h3 h4 .nil
 |cons hk hf hb hv hl ih=>exact .cons hk hf hb hv ih
theorem Dx{b:Nat}{o:Obj}(hb:b<w.heap.size):let w1:World:={w with heap:=w.heap.setIfInBounds b o}
 w1.heap.size=w.heap.size/\(∀x,x≠b->w1.heap[x]? =w.heap[x]?)/\w1.heap[b]? =some o:=by
 refine⟨vm,λx hx=>?_,?_⟩
 ·show(w.heap.setIfInBounds b o)[x]? =_;rw[Fx vj]
 ·show(w.heap.setIfInBounds b o)[b]? =_;simp[hb]
section
variable {dst:Option Tmp} {type:TypeId} {pos:String} {after:Array Edge} {guard:Option (Nat×Bool)} {c:aB} {ρ ρ':Operand->Value} {v:Value} {h':IH}
variable{t kt et:TypeId}
theorem PO(hu:P.underlying t=some (.map kt et)){b clock:Nat}{es:Array MapEntry}{k x:Value}(hb:w.heap[b]? =some (.map es clock))
 (hck:(Instr.checkKey false 10000 kt k).run P w=.ok () w) {r:Option (Nat×Value)} (hf:(Instr.findKey kt k es.toList).run P w=.ok r w)
 (hs:∀i v,r=some (i,v)->∃e,es[i]? =some e/\Instr.sameBits 10000 e.key k=true):
 (Instr.mapUpdate t (.map (some b)) k x).run P w=.ok () {w with heap:=w.heap.setIfInBounds b (match r with
   |some (i,_)=>.map (es.modify i λe=>{e with key:=k,val:=x}) clock
   |none=>.map (es.push {key:=k,val:=x,born:=clock}) (clock+1))}:=by
 simp only[Instr.mapUpdate,dz,fE hu,dD,wO hb vm,hck,hf];cases r with
 |none=>exact KD hb vm
 |some p=>
  obtain⟨i,v⟩:=p;obtain⟨e,h1,h2⟩:=hs i v rfl;simp only[h1,jU,uT,Instr.keyThatStays,h2,if_true,dz,eX,dD];exact KD hb vm
theorem PP(hu:P.underlying t=some (.map kt et)){m m' k k' x x':Value}{h2:IH}(hr:CZ P kt m k x h=some h2)(hm:VR β m m')(hk:VR β k k')(hx:VR β x x')(hW:WR P β h w):
 ∃w',(Instr.mapUpdate t m' k' x').run P w=.ok () w'/\WR P β h2 w'/\Eff β h w β h2 w':=by
 unfold CZ at hr;split at hr
 ·rename_i i;split at hr
  ·rename_i es clock hg;obtain⟨g,hb,rfl⟩:=hm.Br;obtain⟨es',o1,o2⟩:=hW.obj i g _ hb hg;cases hck:qO P kt k with
   |false=>rw[hck]at hr;cases hr
   |true=>
    rw[hck]at hr;simp only[cond_true]at hr;have hk':=hk.pF (KC hck);subst hk';have hfree:=KC hck;have hlt:g.b<w.heap.size:=by
     exact tf
    cases hf:sj P kt k' es with
    |none=>rw[hf]at hr;cases hr
    |some r=>
     rw[hf]at hr;obtain⟨r',f1,f2⟩:=PM o2 w hf;cases f2 with
     |none=>
      simp only[aA]at hr;subst hr;have hrun:=PO (x:=x') hu o1 (KA hck false w) f1 vm;obtain⟨p1,p2,p3⟩:=Dx (w:=w) (o:=.map (es'.push {key:=k',val:=x',born:=clock}) (clock+1)) hlt;refine⟨_,hrun,hW.write hb hg _ p1 p2 rfl rfl rfl (bV _) ⟨_,p3,?_⟩⟩;rw[jF,Array.toList_push];exact o2.push rfl hfree rfl hx
     |some j hv=>
      simp only at hr;split at hr
      ·rename_i e he;rw[ql]at he;obtain⟨e',q1,q2,q3,q4,q5⟩:=o2.get he;cases hs:Instr.sameBits 10000 e.key k' with
       |false=>rw[hs]at hr;cases hr
       |true=>
        rw[hs]at hr;simp only[cond_true,aA]at hr;subst hr;have hrun:=PO (x:=x') hu o1 (KA hck false w) f1 (λi v PR=>by
         simp only[aA,cO]at PR;obtain⟨rfl,_⟩:=PR;exact⟨e',by simpa using q1,by rw[q2];exact hs⟩)
        obtain⟨p1,p2,p3⟩:=Dx (w:=w) (o:=.map (es'.modify j λe=>{e with key:=k',val:=x'}) clock) hlt;refine⟨_,hrun,hW.write hb hg _ p1 p2 rfl rfl rfl (bV _) ⟨_,p3,?_⟩⟩;rw[Pn,Array.toList_modify];exact o2.modify j λe e' a b c d=>⟨rfl,hfree,c,hx⟩
      ·cases hr
  ·cases hr
 ·cases hr
variable{x m k:Operand}
theorem XK(hc:cop P ⟨dst,.mapUpdate t m k x,type,pos,after,guard⟩=some c)(hr:c.run P ρ h=some (v,h'))(hm:VR β (ρ m) (ρ' m))(hk:VR β (ρ k) (ρ' k))(hx:VR β (ρ x) (ρ' x))(hW:WR P β h w):
 Good P β h w (execOp ρ' ⟨dst,.mapUpdate t m k x,type,pos,after,guard⟩) v h':=by
 simp only[cop]at hc;split at hc
 ·exact ga
 ·cases hc
theorem XL(hc:cop P ⟨dst,.insert t m k x,type,pos,after,guard⟩=some c)(hr:c.run P ρ h=some (v,h'))(hm:VR β (ρ m) (ρ' m))(hk:VR β (ρ k) (ρ' k))(hx:VR β (ρ x) (ρ' x))(hW:WR P β h w):
 Good P β h w (execOp ρ' ⟨dst,.insert t m k x,type,pos,after,guard⟩) v h':=by
 simp only[cop]at hc;split at hc
 ·exact ga
 ·cases hc
theorem KE(hW:WR P β h w){s:Sem Next}{ob:dQ}{o':Obj}(hr:s.run P w=.ok (.value (.pointer (some ⟨w.heap.size,0,none⟩))) {w with heap:=w.heap.push o'})
 (ho:∀β':aC,β.le β'->OR P β' ⟨w.heap.size,0,0,0,0⟩ {w with heap:=w.heap.push o'} ob):Good P β h w s (.pointer (some ⟨h.next,0,none⟩)) (h.new ob):=by
 refine uj.good (f:=λi=>.pointer (some ⟨i,0,none⟩)) hW ⟨_,o',⟨w.heap.size,0,0,0,0⟩,hr,rfl,λi β' hle hi=>⟨?_,ho β' hle⟩⟩;have:=VR.ptr (β:=β') (o:=0) hi;exact this
theorem XM(hc:cop P ⟨dst,.range t x,type,pos,after,guard⟩=some c)(hr:c.run P ρ h=some (v,h'))(hx:VR β (ρ x) (ρ' x))(hW:WR P β h w):
 Good P β h w (execOp ρ' ⟨dst,.range t x,type,pos,after,guard⟩) v h':=by
 simp only[cop]at hc;split at hc
 ·rename_i hu;cases hc;simp only[aB.run]at hr;split at hr
  ·rename_i s hs;simp only[aA,cO]at hr;obtain⟨rfl,rfl⟩:=hr;rw[hs]at hx;have hx':=hx.zG;refine KE hW (o':=.stringIter s 0) ?_ λβ' _=>⟨vm,rfl⟩
   simp[execOp,Instr.range,fE hu,hx']
  ·cases hr
 ·rename_i kt et hu;cases hc;simp only[aB.run]at hr;split at hr
  ·rename_i hs;simp only[aA,cO]at hr;obtain⟨rfl,rfl⟩:=hr;rw[hs]at hx;have hx':ρ' x=.map none:=by generalize ρ' x=y at hx;cases hx;rfl
   refine KE hW (o':=.mapIter none 0 #[] 0) ?_ λβ' _=>⟨none, #[],vm,rfl,.wK,rfl⟩
   simp[execOp,Instr.range,fE hu,hx']
  ·rename_i m hs;split at hr
   ·rename_i es clock hg;simp only[aA,cO]at hr;obtain⟨rfl,rfl⟩:=hr;rw[hs]at hx;obtain⟨g,hb,hx'⟩:=hx.Br;obtain⟨es',o1,o2⟩:=hW.obj m g _ hb hg;refine KE hW (o':=.mapIter (some g.b) clock #[] clock) ?_ λβ' hle=>⟨some g.b, #[],vm,rfl,.map (hle _ _ hb),rfl⟩
    simp only[execOp,Instr.range,dz,fE hu,dD,hx',wO o1 vm,eX,run_newObj]
   ·cases hr
  ·cases hr
 ·cases hc
theorem find_born{l l':List MapEntry}(he:fP β l l')(n:Nat):match l.find? (λe=>Nat.beq e.born n)with
 |none=>l'.find? (λe=>e.born==n)=none
 |some e=>∃e',l'.find? (λe=>e.born==n)=some e'/\e'.key=e.key/\bY e.key=true/\VR β e.val e'.val:=by
 induction he with
 |nil=>rfl
 | @cons e e' l l' hk hf hb hv hl ih=>
   simp only[List.find?_cons,hb];cases hq:Nat.beq e.born n with
   |true=>
    have:(e.born==n)=true:=by simp[p9 hq]
    simp only[this];exact⟨e',rfl,hk,hf,hv⟩
   |false=>
    have:(e.born==n)=false:=by simp[CP hq]
    simp only[this];exact ih
theorem XN(hc:cop P ⟨dst,.entry x,type,pos,after,guard⟩=some c)(hr:c.run P ρ h=some (v,h'))(hx:VR β (ρ x) (ρ' x))(hW:WR P β h w):
 Good P β h w (execOp ρ' ⟨dst,.entry x,type,pos,after,guard⟩) v h':=by
 simp only[cop,aA]at hc;subst hc;simp only[aB.run]at hr;split at hr
 ·rename_i r hs;split at hr
  ·rename_i m since seen stepped hg;split at hr
   ·rename_i es clock hgm;split at hr
    ·rename_i stamp hst;cases hbq:Nat.beq clock stepped with
     |false=>rw[hbq]at hr;cases hr
     |true=>
      rw[hbq]at hr;simp only[cond_true]at hr;split at hr
      ·rename_i e he;simp only[aA,cO]at hr;obtain⟨rfl,rfl⟩:=hr;rw[hs]at hx;obtain⟨g,hb,hx'⟩:=hx.uk;obtain⟨m',seen',o1,o2,o3,o4⟩:=hW.obj r g _ hb hg;rw[o4]at hx';obtain⟨gm,Gd,hm'⟩:∃gm,β m=some gm/\m'=some gm.b:=by
        obtain⟨gm,a,b⟩:=o3.Br;exact⟨gm,a,AT⟩
       subst hm';obtain⟨es',p1,p2⟩:=hW.obj m gm _ Gd hgm;have PS:=find_born p2 stamp;rw[he]at PS;obtain⟨e',q1,q2,q3,q4⟩:=PS;have hback:seen'.back? =some stamp:=by
        rw[<- Array.getLast?_toList,o2];exact hst
       have hcl:(clock !=stepped)=false:=by simp[p9 hbq]
       have hfa:es'.find? (λe=>e.born==stamp)=some e':=by rw[<- Array.find?_toList];exact q1
       refine Good.same hW (v':=.tuple #[e'.key,e'.val]) ?_ (.tuple (.cons ?_ (.cons q4 .nil)))
       ·simp only[execOp,Instr.entry,AV,dz,hx',wO o1 vm,wO p1 vm,dD,hback,hcl,hfa,eX,uS,if_false]
       ·rw[q2];exact VR.free q3
      ·cases hr
    ·cases hr
   ·cases hr
  ·cases hr
 ·cases hr
theorem XO{xt:TypeId}{ok:Bool}(hc:cop P ⟨dst,.typeAssert x xt t ok,type,pos,after,guard⟩=some c)(hr:c.run P ρ h=some (v,h'))(hx:VR β (ρ x) (ρ' x))(hW:WR P β h w):
 Good P β h w (execOp ρ' ⟨dst,.typeAssert x xt t ok,type,pos,after,guard⟩) v h':=by
 simp only[cop]at hc;split at hc
 ·cases hc
 ·rename_i d hni hu;cases hz:zeroOf P t with
  |none=>simp[hz]at hc
  |some z=>
   simp only[hz,jU,aA]at hc;subst hc;obtain⟨_,_,_,Dw⟩:=Bn hz;simp only[aB.run]at hr;split at hr
   ·rename_i hs;rw[hs]at hx;have hx':ρ' x=.nilIface:=by generalize ρ' x=y at hx;cases hx;rfl
    cases ok with
    |false=>cases hr
    |true=>
     simp only[cond_true,aA,cO]at hr;obtain⟨rfl,rfl⟩:=hr;refine Good.same hW (v':=.tuple #[z,.bool false]) ?_ (.tuple (.cons (VR.free Dw) (.cons (.bool _) .nil)));simp only[execOp,Instr.typeAssert,dz,fE hu,dD,hx',if_true,Bo hz,eX]
   ·rename_i u y hs;rw[hs]at hx;obtain⟨y',hy,hx'⟩:=hx.zH;cases hbq:Nat.beq u t with
    |true=>
     have hut:u=t:=p9 hbq;rw[hbq]at hr;simp only[cond_true,aA,cO]at hr;obtain⟨rfl,rfl⟩:=hr;refine Good.same hW (v':=if ok then .tuple #[y',.bool true]else y') ?_ ?_
     ·simp only[execOp,Instr.typeAssert,dz,fE hu,dD,hx',hut];cases d<;>first|exact absurd rfl (hni _)|simp
     ·cases ok
      ·exact hy
      ·exact .tuple (.cons hy (.cons (.bool _) .nil))
    |false=>
     have hut:u≠t:=CP hbq;rw[hbq]at hr;cases ok with
     |false=>cases hr
     |true=>
      simp only[cond_true,cond_false,aA,cO]at hr;obtain⟨rfl,rfl⟩:=hr;refine Good.same hW (v':=.tuple #[z,.bool false]) ?_ (.tuple (.cons (VR.free Dw) (.cons (.bool _) .nil)));simp only[execOp,Instr.typeAssert,dz,fE hu,dD,hx'];cases d<;>first|exact absurd rfl (hni _)|simp[hut,Bo hz]
   ·cases hr
 ·cases hc
end
