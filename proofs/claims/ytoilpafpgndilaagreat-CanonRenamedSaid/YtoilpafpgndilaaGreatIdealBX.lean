/-
  Part IdealBX.
-/
import Derived.Test.YtoilpafpgndilaaGreatIdealAX
import Derived.IntWalk
import Derived.Laws.Append
set_option linter.all false
namespace Go.Ideal
variable {P:Program} {β:aG} {h:IH} {w:World}
theorem VR.GJ{b:Bool}{v:Value}(h:VR β (.bool b) v):v=.bool b:=by cases h;rfl
theorem VR.mo{k:IntKind}{n:Int}{v:Value}(h:VR β (.int k n) v):v=.int k n:=by cases h;rfl
theorem VR.Ai{s:ByteArray}{v:Value}(h:VR β (.string s) v):v=.string s:=by cases h;rfl
theorem VR.uJ{i o:Nat}{v:Value}(h:VR β (.pointer (some ⟨i,o,none⟩)) v):∃g,β i=some g/\v=.pointer (some ⟨g.b,g.off+o,none⟩):=by
 cases h with|ptr hi=>exact⟨_,hi,rfl⟩
theorem VR.Cg{i:Nat}{v:Value}(h:VR β (.map (some i)) v):∃g,β i=some g/\v=.map (some g.b):=by
 cases h with|map hi=>exact⟨_,hi,rfl⟩
theorem VR.Aj{t:TypeId}{u v:Value}(h:VR β (.iface t u) v):∃u',VR β u u'/\v=.iface t u':=by
 cases h with|iface t hi=>exact⟨_,hi,rfl⟩
theorem VR.KQ{l:List Value}{v:Value}(h:VR β (.agg ⟨l⟩) v):∃l',aW β l l'/\l.all Ideal.cellV=true/\v=.agg ⟨l'⟩:=by
 cases h with|agg hc hl=>exact⟨_,hl,hc,rfl⟩
theorem VR.Ak{fn:Fn}{f c:List Value}{v:Value}(h:VR β (.func fn ⟨f⟩ ⟨c⟩) v):∃fn' f' c',FR β fn fn'/\aW β f f'/\aW β c c'/\v=.func fn' ⟨f'⟩ ⟨c'⟩:=by
 cases h with|func h1 h2 h3=>exact⟨_,_,_,h1,h2,h3,rfl⟩
theorem VR.nT{i o:Nat}{f:Option Nat}{n c:Nat}{v:Value}(h:VR β (.slice (some ⟨i,o,f⟩) n c) v):
 ∃g a c',β i=some g/\v=.slice (some a) n c'/\a.block=g.b/\True/\n<=c/\c<=c'/\(c'=0\/(a.off=g.off+o/\a.spot=none))/\
  ((f=some 0/\c'=c)\/(f=some g.sz/\0<g.sz/\o+c*g.sz=g.len/\(g.off+o+c'*g.sz=g.top/\a.spot=none))):=by
 cases h with
 |ak hi hb hn ha=>exact⟨_,_,_,hi,rfl,hb,trivial,hn,bT _,ha,.inl ⟨rfl,rfl⟩⟩
 |qa hi hb hs hn hz hl ht hc ha=>exact⟨_,_,_,hi,rfl,hb,trivial,hn,hc,ha.imp id (λe=>⟨e,hs⟩),.inr ⟨rfl,hz,hl,ht,hs⟩⟩
theorem aW.of_map{γ:Type}{f f':γ->Value}{l:List γ}(h:∀x∈l,VR β (f x) (f' x)):aW β (lN f l) (l.map f'):=by
 rw[vQ];exact aW.map l h
theorem XY(ρ:Operand->Value)(zero:List Value):rA ρ zero []=some zero:=rfl
theorem KS(ρ:Operand->Value)(zero:List Value)(off size:Nat)(x:Operand)(ps:List (Nat×Nat×Operand)):
 rA ρ zero ((off,size,x)::ps)=match cellsOf (ρ x)with
  |none=>none
  |some vs=>if iL vs=size then(match jV zero off vs with
   |some cs=>rA ρ cs ps
   |none=>none)else none:=by
 show(match cellsOf (ρ x)with
  |none=>none
  |some vs=>cond (Nat.beq (iL vs) size) (match jV zero off vs with
   |some cs=>rA ρ cs ps
   |none=>none) none)=_
 cases cellsOf (ρ x)with
 |none=>rfl
 |some vs=>
  show cond (Nat.beq (iL vs) size) _ none=if iL vs=size then _ else none
  cases hb:Nat.beq (iL vs) size with
  |true=>rw[if_pos (qo hb)];rfl
  |false=>rw[if_neg (Dw hb)];rfl
theorem foldl_set(off:Nat):∀(l:List Value) (k:Nat) (A:Array Value),
 ((l.zipIdx k).foldl (λcs (x:Value×Nat)=>cs.setIfInBounds (off+x.2) x.1) A).size=A.size/\
 ∀j,((l.zipIdx k).foldl (λcs (x:Value×Nat)=>cs.setIfInBounds (off+x.2) x.1) A)[j]? =if off+k<=j/\j<off+k+l.length/\j<A.size then l[j - (off+k)]? else A[j]?:=by
 intro l;induction l with
 |nil=>intro k A;refine⟨rfl,λj=>?_⟩;rw[if_neg (by simp;omega)];rfl
 |cons x l ih=>
  intro k A;simp only[List.zipIdx_cons,wO];obtain⟨h1,h2⟩:=ih (k+1) (A.setIfInBounds (off+k) x);refine⟨by rw[h1];simp,λj=>?_⟩;rw[h2];simp only[Array.size_setIfInBounds,oP];by_cases hc:off+(k+1)<=j/\j<off+(k+1)+l.length/\j<A.size
  ·rw[if_pos hc,if_pos (by omega)];rw[show j - (off+k)=(j - (off+(k+1)))+1 by omega,qZ]
  ·rw[if_neg hc];by_cases hj:j=off+k
   ·subst hj;by_cases hs:off+k<A.size
    ·rw[if_pos (by omega)];simp[hs]
    ·rw[if_neg (by omega),uo (by simp;omega),uo (by omega)]
   ·rw[if_neg (by omega)];rw[Gb (by omega)]
inductive F2{γ δ:Type}(R:γ->δ->Prop):List γ->List δ->Prop
 |nil:F2 R [] []
 |cons {a:γ} {b:δ} {l:List γ} {r:List δ} (h:R a b) (hl:F2 R l r):F2 R (a::l) (b::r)
theorem KT{place:Nat->Option (Nat×Nat)}{ρ ρ':Operand->Value}:∀(parts:List (Nat×Operand)) (pc:List (Nat×Nat×Operand)) (zs zs' cs:List Value),
 F2 (λ(p:Nat×Operand) (q:Nat×Nat×Operand)=>q.2.2=p.2/\place p.1=some (q.1,q.2.1)) parts pc->aW β zs zs'->zs.all Ideal.cellV=true->
 rA ρ zs pc=some cs->(∀p∈parts,VR β (ρ p.2) (ρ' p.2))->∃cs',Instr.fill place ⟨zs'⟩ (parts.map λp=>(p.1,ρ' p.2))=some ⟨cs'⟩/\aW β cs cs'/\cs.all Ideal.cellV=true/\cs.length=zs.length:=by
 intro parts;induction parts with
 |nil=>
  intro pc zs zs' cs hf hz hc hr _;cases hf;rw[XY]at hr;cases hr;exact⟨zs',rfl,hz,hc,rfl⟩
 |cons p parts ih=>
  intro pc zs zs' cs hf hz hc hr hρ;obtain⟨i,x⟩:=p;cases hf with
  | @cons _ q _ pc hq hf=>
    obtain⟨off,size,y⟩:=q;obtain⟨hy,hpl⟩:=hq;simp only at hy hpl;subst hy;rw[KS]at hr;split at hr
    ·cases hr
    ·rename_i vs hvs;split at hr
     ·rename_i hsz;split at hr
      ·rename_i cs1 hl;obtain⟨Qt,vs',hv1,hv2⟩:=(hρ (i,y) (by simp)).cells hvs;obtain⟨l1,l2,l3⟩:=KJ hl;rw[xe]at hsz;have hlen:=hv2.length;have hzl:=hz.length;have GK:=foldl_set off vs' 0 ⟨zs'⟩
       -- the array behind the part
       have hA:∃D8,((vs'.zipIdx 0).foldl (λcs (x:Value×Nat)=>cs.setIfInBounds (off+x.2) x.1) (⟨zs'⟩:Array Value))=⟨D8⟩/\aW β cs1 D8:=by
        refine⟨_,rfl,aW.XV ?_ ?_⟩
        ·have:=GK.1;simp only[Array.size]at this;rw[this,hzl,l2]
        ·intro j v hj;have hg:=GK.2 j;simp only[zM]at hg;rw[l3]at hj;have hjl:j<zs'.length:=by
          rw[hzl,<- l2];rcases rq j cs1.length with hh|hh
          ·exact hh
          ·have:=l3 j;rw[fO hh]at this;rw[<- this]at hj;cases hj
         split at hj
         ·rename_i hr2;obtain⟨v',h1,h2⟩:=hv2.get hj;refine⟨v',?_,h2⟩;rw[<- zN]at hg;rw[hg,if_pos (by simp;omega)];exact h1
         ·rename_i hr2;obtain⟨v',h1,h2⟩:=hz.get hj;refine⟨v',?_,h2⟩;rw[<- zN]at hg;rw[hg,if_neg (by simp;omega)];simpa using h1
       obtain⟨D8,hA1,hA2⟩:=hA;have hc1:cs1.all Ideal.cellV=true:=by
        rw[lK]at hc Qt⊢;intro z XZ;obtain⟨j,hj⟩:=jS XZ;rw[l3]at hj;split at hj
        ·exact Qt z (aZ hj)
        ·exact hc z (aZ hj)
       obtain⟨cs',r1,r2,r3,r4⟩:=ih pc cs1 D8 cs hf hA2 hc1 hr λp hp=>hρ p (by simp[hp]);refine⟨cs',?_,r2,r3,by omega⟩;simp only[gL,Instr.fill,hpl];rw[if_neg (by simp only[hv1,Array.size,vG,wP,not_or];omega)];have hz0:(ρ' y).cells.zipIdx=(⟨vs'.zipIdx 0⟩:Array (Value×Nat)):=by rw[hv1];simp
       rw[hz0];have hfl:Array.foldl (λcs (x:Value×Nat)=>match x with|(c,j)=>cs.setIfInBounds (off+j) c) (⟨zs'⟩:Array Value) (⟨vs'.zipIdx 0⟩:Array (Value×Nat))=⟨D8⟩:=by
        rw[<- hA1,<- PK]
       rw[hfl];exact r1
      ·cases hr
     ·cases hr
end Go.Ideal
namespace Go.Ideal
variable {P:Program} {β:aG} {h:IH} {w:World}
theorem xq{s:Sem Value}{v:Value}{w w':World}(h:s.run P w=.ok v w'):(do pure (.value (<- s)):Sem Next).run P w=.ok (.value v) w':=by simp[h]
theorem Qu{s:Sem Unit}{w w':World}(h:s.run P w=.ok () w'):(do s;pure .skip:Sem Next).run P w=.ok .skip w':=by simp[h]
theorem Qv{s:Sem Next}{cs cs':List Value}{t:TypeId}(hcs:aW β cs cs')(hc:cs.all cellV=true)
 (hr:s.run P w=.ok (.value (.pointer (some ⟨w.heap.size,0,none⟩))) {w with heap:=w.heap.push (.cells ⟨cs'⟩ t)}):
 uI P β w s (λi=>.pointer (some ⟨i,0,none⟩)) (.cells cs):=by
 refine⟨_,_,⟨w.heap.size,0,cs.length,cs.length+0,0⟩,hr,rfl,λi β' hle hi=>⟨?_,?_⟩⟩
 ·have:=VR.ptr (β:=β') (o:=0) hi;exact this
 ·have:=OR.GI (P:=P) (w:=w) t (hcs.mono hle) hc [] 0;simpa using this
theorem Qw{s:Sem Next}{cs cs':List Value}{t:TypeId}{n c:Nat}(hn:n<=c)(hcs:aW β cs cs')(hc:cs.all cellV=true)
 (hr:s.run P w=.ok (.value (.slice (some ⟨w.heap.size,0,none⟩) n c)) {w with heap:=w.heap.push (.cells ⟨cs'⟩ t)}):
 uI P β w s (λi=>.slice (zY i 0) n c) (.cells cs):=by
 refine⟨_,_,⟨w.heap.size,0,cs.length,cs.length+0,0⟩,hr,rfl,λi β' hle hi=>⟨?_,?_⟩⟩
 ·exact VR.ak hi rfl hn (.inr ⟨rfl,rfl⟩)
 ·have:=OR.GI (P:=P) (w:=w) t (hcs.mono hle) hc [] 0;simpa using this
theorem yN{t:TypeId}{cs:List Value}(h:vO P t=some cs):
 ∃z i,P.info? t=some i/\i.zero=some z/\z.cells=⟨cs⟩/\fZ cs=true/\jB P t=some cs.length:=by
 unfold vO at h;split at h
 ·rename_i z n hz hn;split at h
  ·rename_i hh;cases h;obtain⟨i,h1,h2,h3⟩:=Cb hz;exact⟨z,i,h1,h2,rfl,hh.2,by rw[hh.1];exact hn⟩
  ·cases h
 ·cases h
theorem Qx(f:Nat->Value):Array.map f (Array.range 0)= #[]:=XF (by simp)
theorem X0{e:TypeId}{dst:Option Tmp}{type:TypeId}{pos:String}{after:Array Edge}{guard:Option (Nat×Bool)}{c:aF}{ρ ρ':Operand->Value}{f:Nat->Value}{ob:dN}
 (hc:cop P ⟨dst,.alloc e,type,pos,after,guard⟩=some c) (ha:c.alloc ρ=some (f,ob)):uI P β w (execOp ρ' ⟨dst,.alloc e,type,pos,after,guard⟩) f ob:=by
 simp only[cop]at hc;split at hc
 ·rename_i cs hz;cases hc;simp only[aF.alloc]at ha;cases ha;obtain⟨z,i,h1,h2,h3,h4,_⟩:=yN hz;refine Qv (t:=e) (aW.free h4) (uG h4) ?_;simp[execOp,Instr.alloc,zeroValue,typeInfo,h1,h2,newVar,newRow,h3]
 ·cases hc
theorem X3{e:TypeId}{x:Operand}{dst:Option Tmp}{type:TypeId}{pos:String}{after:Array Edge}{guard:Option (Nat×Bool)}{c:aF}{ρ ρ':Operand->Value}{f:Nat->Value}{ob:dN}
 (hc:cop P ⟨dst,.box e x,type,pos,after,guard⟩=some c) (ha:c.alloc ρ=some (f,ob)) (hx:VR β (ρ x) (ρ' x)):uI P β w (execOp ρ' ⟨dst,.box e x,type,pos,after,guard⟩) f ob:=by
 simp only[cop,aD]at hc;subst hc;simp only[aF.alloc]at ha;split at ha
 ·rename_i cs hcs;cases ha;obtain⟨h1,cs',h2,h3⟩:=hx.cells hcs;refine Qv (t:=e) h3 h1 ?_;simp[execOp,Instr.box,newVar,newRow,h2]
 ·cases ha
theorem X4{t:TypeId}{r:Option Operand}{dst:Option Tmp}{type:TypeId}{pos:String}{after:Array Edge}{guard:Option (Nat×Bool)}{c:aF}{ρ ρ':Operand->Value}{f:Nat->Value}{ob:dN}
 (hc:cop P ⟨dst,.makeMap t r,type,pos,after,guard⟩=some c) (ha:c.alloc ρ=some (f,ob)):uI P β w (execOp ρ' ⟨dst,.makeMap t r,type,pos,after,guard⟩) f ob:=by
 cases r with
 |some r=>simp[cop]at hc
 |none=>
  simp only[cop,aD]at hc;subst hc;simp only[aF.alloc]at ha;cases ha;refine⟨.map (some w.heap.size),.map #[] 0,⟨w.heap.size,0,0,0,0⟩,?_,rfl,λi β' hle hi=>⟨?_,?_⟩⟩
  ·simp[execOp,Instr.makeMap]
  ·have:=VR.map (β:=β') hi;exact this
  ·exact⟨#[],by simp,.nil⟩
theorem X5(z:List Value)(n:Nat)(hz:z≠[]):∀j,(zeros z n)[j]? =if j<n*z.length then z[j%z.length]? else none:=by
 induction n with
 |zero=>intro j;show([]:List Value)[j]? =_;simp
 |succ n ih=>
  intro j;have hpos:0<z.length:=BK.2 hz;show(ko z (zeros z n))[j]? =_;rw[jK];by_cases hj:j<z.length
  ·rw[qp hj,if_pos (by rw[Nat.succ_mul];omega),Nat.mod_eq_of_lt hj]
  ·rw[pR (by omega),ih];have:(j - z.length)%z.length=j%z.length:=by
    rw[<- Nat.mod_eq_sub_mod (by omega)]
   rw[this];by_cases hl:j<(n+1)*z.length
   ·rw[if_pos hl,if_pos (by rw[Nat.succ_mul]at hl;omega)]
   ·rw[if_neg hl,if_neg (by rw[Nat.succ_mul]at hl;omega)]
theorem yO{z:List Value}(hz:fZ z=true)(n:Nat):fZ (zeros z n)=true:=by
 have happ:∀(a b:List Value),fZ a=true->fZ b=true->fZ (a++b)=true:=by
  intro a b ha hb;induction a with
  |nil=>exact hb
  |cons x a ih=>simp[fZ]at ha⊢;exact⟨ha.1,ih ha.2⟩
 induction n with
 |zero=>rfl
 |succ n ih=>show fZ (ko z (zeros z n))=true;rw[jK];exact happ _ _ hz ih
theorem GL(z:List Value)(n:Nat)(hz:z≠[]):(Array.range (n*z.length)).map (λj=>(⟨z⟩:Array Value)[j%(⟨z⟩:Array Value).size]!)=⟨zeros z n⟩:=by
 have hpos:0<z.length:=BK.2 hz;apply Array.ext';apply iY;intro j;show _=(zeros z n)[j]?;rw[X5 z n hz];simp only[Kh,Array.toList_range,dm];by_cases hj:j<n*z.length
 ·rw[if_pos hj,pU hj];have hm:j%z.length<z.length:=zO _ hpos;simp[hm]
 ·rw[if_neg hj,fO (by simp;omega)];rfl
theorem tu{t:TypeId}{n:Nat}(h:nG P t=some n):jB P t=some n/\0<n:=by
 unfold nG at h;split at h
 ·cases h
 ·rename_i h2;refine⟨h,?_⟩;rcases Gc n with h0|h0
  ·subst h0;exact absurd h h2
  ·exact h0
theorem X6{t:TypeId}{l k:Operand}{dst:Option Tmp}{type:TypeId}{pos:String}{after:Array Edge}{guard:Option (Nat×Bool)}{c:aF}{ρ ρ':Operand->Value}{f:Nat->Value}{ob:dN}
 (hc:cop P ⟨dst,.makeSlice t l k,type,pos,after,guard⟩=some c) (ha:c.alloc ρ=some (f,ob)) (hl:VR β (ρ l) (ρ' l)) (hk:VR β (ρ k) (ρ' k)):
 uI P β w (execOp ρ' ⟨dst,.makeSlice t l k,type,pos,after,guard⟩) f ob:=by
 simp only[cop]at hc;split at hc
 ·rename_i e hu;split at hc
  ·rename_i s z hs hz;cases hc;simp only[aF.alloc]at ha;obtain⟨zv,i,h1,h2,h3,h4,h5⟩:=yN hz;obtain⟨hs1,hs2⟩:=tu hs;rw[h5]at hs1;have hzl:z.length=s:=by simpa using hs1
   split at ha
   ·rename_i ln cn hln hcn;rw[hln]at hl;rw[hcn]at hk;have hl':=hl.mo;have hk':=hk.mo;simp only[h1,jT,Option.get!_some]at ha;cases hcond:(ln.ble cn&&(cn.mul i.bytes).ble small&&(cn.mul s).ble small&&cn.ble small)with
    |false=>rw[hcond]at ha;cases ha
    |true=>
     rw[hcond]at ha;simp only[cond_true,aD,di]at ha;obtain⟨rfl,rfl⟩:=ha;simp only[fe]at hcond;obtain⟨⟨⟨c1,c2⟩,c3⟩,c4⟩:=hcond;have c1:=mK c1;have c2:=mK c2;have c4:=mK c4;unfold small at c2 c4;have hwl:IntKind.i64.wrap (Int.ofNat ln)=ln:=by
      exact IntWalk.i64_in _ (by simp;omega)
     have hwc:IntKind.i64.wrap (Int.ofNat cn)=cn:=by
      exact IntWalk.i64_in _ (by simp;omega)
     refine Qw (t:=e) c1 (aW.free (yO h4 cn)) (uG (yO h4 cn)) ?_;have D9:z≠[]:=λe=>by subst e;simp at hzl;omega
     have hbig:¬((i.bytes:Int)*(cn:Int)>281474976710656):=by
      rw[<- Int.natCast_mul,Nat.mul_comm];have c2':cn*i.bytes<=1073741824:=c2;omega
     have hsz:((cn:Int)).toNat=cn:=by simp
     have hsz2:((ln:Int)).toNat=ln:=by simp
     have hzs:(⟨z⟩:Array Value).size=s:=hzl;simp only[execOp,Instr.makeSlice,dG,fJ hu,dJ,hl',hk',asInt,asIntOf,fw,D7 h1,hwl,hwc,Int.reducePow];rw[if_neg (by simp only[vG,wP,not_or];omega)];simp only[hsz,hsz2,dG,run_askRoom,dJ,mP h5,hzl];by_cases h0:cn*s=0
     ·rw[if_pos h0];have X7:cn=0:=by
       rcases Nat.mul_eq_zero.1 h0 with hh|hh
       ·exact hh
       ·omega
      subst X7;have hz0:zeros z 0=[]:=rfl;simp[newRow,hz0,Qx]
     ·rw[if_neg h0];have hzz:zeroOf P e=some zv:=by
       unfold vO at hz;split at hz
       ·rename_i z' n' hz' _;obtain⟨i',j1,j2,_⟩:=Cb hz';rw[h1]at j1;cases j1;rw[h2]at j2;cases j2;exact hz'
       ·cases hz
      have hrow:=GL z cn D9;rw[hzl]at hrow;simp only[dG,Cc hzz,dJ,h3,fw,newRow,run_newObj,hrow]
   ·cases ha
  ·cases hc
 ·cases hc
theorem F2.of_map{γ δ:Type}{R:γ->δ->Prop}(f:γ->δ)(l:List γ)(h:∀x∈l,R x (f x)):F2 R l (l.map f):=by
 induction l with
 |nil=>exact .nil
 |cons x l ih=>exact .cons (h x (by simp)) (ih λy hy=>h y (by simp[hy]))
section
variable {dst:Option Tmp} {type:TypeId} {pos:String} {after:Array Edge} {guard:Option (Nat×Bool)} {c:aF} {ρ ρ':Operand->Value} {f:Nat->Value} {ob:dN} {v:Value} {h':IH}
theorem X8{t:TypeId}{len:Nat}{parts:Array (Nat×Operand)}
 (hc:cop P ⟨dst,.buildSlice t len parts,type,pos,after,guard⟩=some c) (ha:c.alloc ρ=some (f,ob)) (hρ:∀p∈parts.toList,VR β (ρ p.2) (ρ' p.2)):
 uI P β w (execOp ρ' ⟨dst,.buildSlice t len parts,type,pos,after,guard⟩) f ob:=by
 simp only[cop]at hc;split at hc
 ·rename_i e hu;split at hc
  ·rename_i s z hs hz;split at hc
   ·rename_i hle;cases hc;simp only[aF.alloc]at ha;split at ha
    ·rename_i cs hcs;cases ha;obtain⟨zv,i,h1,h2,h3,h4,h5⟩:=yN hz;obtain⟨hs1,hs2⟩:=tu hs;rw[h5]at hs1;have hzl:z.length=s:=by simpa using hs1
     have D9:z≠[]:=λe=>by subst e;simp at hzl;omega
     obtain⟨cs',r1,r2,r3,_⟩:=KT (β:=β) (place:=λi=>some (i*s,s)) (ρ:=ρ) (ρ':=ρ') parts.toList _ (zeros z len) (zeros z len) cs
      (F2.of_map (λp=>(p.1*s,s,p.2)) _ λp _=>⟨rfl,rfl⟩) (aW.free (yO h4 len)) (uG (yO h4 len)) hcs hρ
     refine Qw (t:=e) (bT _) r2 r3 ?_;have hzz:zeroOf P e=some zv:=by
      unfold vO at hz;split at hz
      ·rename_i z' n' hz' _;obtain⟨i',j1,j2,_⟩:=Cb hz';rw[h1]at j1;cases j1;rw[h2]at j2;cases j2;exact hz'
      ·cases hz
     have hrow:=GL z len D9;rw[hzl]at hrow;have hpl:(parts.map λ(x:Nat×Operand)=>match x with|(i,x)=>(i,ρ' x)).toList=parts.toList.map λp=>(p.1,ρ' p.2):=by simp
     simp only[execOp,Instr.buildSlice,dG,fJ hu,dJ,mP h5,hzl,hpl];rw[if_neg (by omega)];simp only[dG,dJ,fw];by_cases h0:len*s=0
     ·have hl0:len=0:=by
       rcases Nat.mul_eq_zero.1 h0 with hh|hh
       ·exact hh
       ·omega
      subst hl0;rw[if_pos h0];have hz0:(Array.map (λx=>(#[]:Array Value)[x%(#[]:Array Value).size]!) (Array.range (0*s)))=⟨zeros z 0⟩:=by rw[h0];exact Qx _
      simp only[dG,fw,dJ,hz0,r1,newRow,run_newObj]
     ·rw[if_neg h0];simp only[dG,Cc hzz,dJ,h3,fw,hrow,r1,newRow,run_newObj]
    ·cases ha
   ·cases hc
  ·cases hc
 ·cases hc
theorem X9{x:Operand}(hc:cop P ⟨dst,.move x,type,pos,after,guard⟩=some c)(hr:c.run P ρ h=some (v,h'))(hx:VR β (ρ x) (ρ' x))(hW:WR P β h w):
 Good P β h w (execOp ρ' ⟨dst,.move x,type,pos,after,guard⟩) v h':=by
 simp only[cop,aD]at hc;subst hc;simp only[aF.run,aD,di]at hr;obtain⟨rfl,rfl⟩:=hr;exact Good.same hW (v':=ρ' x) (by simp[execOp]) hx
theorem Ya{x:Operand}(hc:cop P ⟨dst,.assign x,type,pos,after,guard⟩=some c)(hr:c.run P ρ h=some (v,h'))(hx:VR β (ρ x) (ρ' x))(hW:WR P β h w):
 Good P β h w (execOp ρ' ⟨dst,.assign x,type,pos,after,guard⟩) v h':=by
 simp only[cop,aD]at hc;subst hc;simp only[aF.run,aD,di]at hr;obtain⟨rfl,rfl⟩:=hr;exact Good.same hW (v':=ρ' x) (by simp[execOp]) hx
theorem Yb{x y z:Operand}(hc:cop P ⟨dst,.pick x y z,type,pos,after,guard⟩=some c)(hr:c.run P ρ h=some (v,h'))(hx:VR β (ρ x) (ρ' x))(hy:VR β (ρ y) (ρ' y))(hz:VR β (ρ z) (ρ' z))(hW:WR P β h w):
 Good P β h w (execOp ρ' ⟨dst,.pick x y z,type,pos,after,guard⟩) v h':=by
 simp only[cop,aD]at hc;subst hc;simp only[aF.run]at hr;split at hr
 ·rename_i t ht;rw[ht]at hx;have hx':=hx.GJ;simp only[aD,di]at hr;obtain⟨rfl,rfl⟩:=hr;cases t
  ·exact Good.same hW (v':=ρ' z) (by simp[execOp,hx',asBool]) hz
  ·exact Good.same hW (v':=ρ' y) (by simp[execOp,hx',asBool]) hy
 ·cases hr
theorem run_places{fs:Array Field}(hall:fs.toList.all (λf=>(jB P f.type).isSome)=true)(w:World):
 ∃pl:Array (Nat×Nat),(fs.mapM λf=>do pure (f.offset,<- sizeOf f.type):Sem (Array (Nat×Nat))).run P w=.ok pl w/\∀(i:Nat) fd,fs[i]? =some fd->∃s,jB P fd.type=some s/\pl[i]? =some (fd.offset,s):=by
 obtain⟨l⟩:=fs;have key:∀l:List Field,l.all (λf=>(jB P f.type).isSome)=true->
  ∃pl:List (Nat×Nat),(l.mapM λf=>do pure (f.offset,<- sizeOf f.type):Sem (List (Nat×Nat))).run P w=.ok pl w/\∀(i:Nat) fd,l[i]? =some fd->∃s,jB P fd.type=some s/\pl[i]? =some (fd.offset,s):=by
  intro l;induction l with
  |nil=>intro _;exact⟨[],by simp,λi fd hi=>by simp at hi⟩
  |cons x l ih=>
   intro hl;simp only[List.all_cons,fe]at hl;obtain⟨pl,h1,h2⟩:=ih hl.2;obtain⟨s,hs⟩:=Option.isSome_iff_exists.1 hl.1;refine⟨(x.offset,s)::pl,?_,λi fd hi=>?_⟩
   ·simp only[List.mapM_cons,dG,mP hs,dJ,fw,h1]
   ·cases i with
    |zero=>simp at hi;subst hi;exact⟨s,hs,by simp⟩
    |succ i=>simp at hi;obtain⟨s',a,b⟩:=h2 i fd hi;exact⟨s',a,by simpa using b⟩
 obtain⟨pl,h1,h2⟩:=key l hall;refine⟨⟨pl⟩,?_,λi fd hi=>?_⟩
 ·rw[List.mapM_toArray,Sem.run_map,h1];rfl
 ·obtain⟨s,a,b⟩:=h2 i fd (by simpa using hi);exact⟨s,a,by simpa using b⟩
theorem Yc{fs:Array Field}{pl:Array (Nat×Nat)}(hpl:∀(i:Nat) fd,fs[i]? =some fd->∃s,jB P fd.type=some s/\pl[i]? =some (fd.offset,s)):
 ∀(parts:List (Nat×Operand)) (ps:List (Nat×Nat×Operand)),yH P fs parts=some ps->F2 (λ(p:Nat×Operand) (q:Nat×Nat×Operand)=>q.2.2=p.2/\pl[p.1]? =some (q.1,q.2.1)) parts ps:=by
 intro parts;induction parts with
 |nil=>intro ps h;simp[yH]at h;subst h;exact .nil
 |cons p parts ih=>
  intro ps h;obtain⟨i,x⟩:=p;simp only[yH]at h;split at h
  ·rename_i fd r Ea hr;split at h
   ·rename_i s hs;cases h;refine .cons ⟨rfl,?_⟩ (ih r hr);obtain⟨s',a,b⟩:=hpl i fd Ea;rw[hs]at a;cases a;exact b
   ·cases h
  ·cases h
theorem Yd{t:TypeId}{parts:Array (Nat×Operand)}(hc:cop P ⟨dst,.build t parts,type,pos,after,guard⟩=some c)(hr:c.run P ρ h=some (v,h'))(hρ:∀p∈parts.toList,VR β (ρ p.2) (ρ' p.2))(hW:WR P β h w):
 Good P β h w (execOp ρ' ⟨dst,.build t parts,type,pos,after,guard⟩) v h':=by
 have hpl:(parts.map λ(x:Nat×Operand)=>match x with|(i,x)=>(i,ρ' x)).toList=parts.toList.map λp=>(p.1,ρ' p.2):=by simp
 simp only[cop]at hc;split at hc
 ·rename_i fs z hu hz;split at hc
  ·rename_i ps hps;cases hc;simp only[aF.run]at hr;split at hr
   ·rename_i cs hcs;simp only[aD,di]at hr;obtain⟨rfl,rfl⟩:=hr;obtain⟨zv,i,h1,h2,h3,h4,h5⟩:=yN hz;unfold placesOf at hps;split at hps
    ·rename_i hall;obtain⟨pl,q1,q2⟩:=run_places (P:=P) hall w;obtain⟨cs',r1,r2,r3,_⟩:=KT (β:=β) (place:=λi=>pl[i]?) (ρ:=ρ) (ρ':=ρ') parts.toList ps z z cs (Yc q2 _ _ hps) (aW.free h4) (uG h4) hcs hρ;refine Good.same hW (v':=.agg ⟨cs'⟩) ?_ (.agg r3 r2);simp only[execOp,Instr.build,dG,zeroValue,D7 h1,h2,dJ,fw,h3,fJ hu,q1,hpl,r1]
    ·cases hps
   ·cases hr
  ·cases hc
 ·rename_i n e z hu hz;split at hc
  ·rename_i s hs;cases hc;simp only[aF.run]at hr;split at hr
   ·rename_i cs hcs;simp only[aD,di]at hr;obtain⟨rfl,rfl⟩:=hr;obtain⟨zv,i,h1,h2,h3,h4,h5⟩:=yN hz;obtain⟨hs1,hs2⟩:=tu hs;obtain⟨cs',r1,r2,r3,_⟩:=KT (β:=β) (place:=λi=>some (i*s,s)) (ρ:=ρ) (ρ':=ρ') parts.toList _ z z cs (F2.of_map (λp=>(p.1*s,s,p.2)) _ λp _=>⟨rfl,rfl⟩) (aW.free h4) (uG h4) hcs hρ;refine Good.same hW (v':=.agg ⟨cs'⟩) ?_ (.agg r3 r2);simp only[execOp,Instr.build,dG,zeroValue,D7 h1,h2,dJ,fw,h3,fJ hu,mP hs1,hpl,r1]
   ·cases hr
  ·cases hc
 ·cases hc
theorem Ye{t:TypeId}{x:Operand}(hc:cop P ⟨dst,.load t x,type,pos,after,guard⟩=some c)(hr:c.run P ρ h=some (v,h'))(hx:VR β (ρ x) (ρ' x))(hW:WR P β h w):
 Good P β h w (execOp ρ' ⟨dst,.load t x,type,pos,after,guard⟩) v h':=by
 simp only[cop]at hc;split at hc
 ·rename_i hagg;cases hs:jB P t with
  |none=>simp[hs]at hc
  |some n=>
   simp only[hs,jT,aD]at hc;subst hc;simp only[aF.run]at hr;split at hr
   ·rename_i i o ha;rw[ha]at hx;obtain⟨g,hg,hx'⟩:=hx.uJ;split at hr
    ·rename_i cs hcs;simp only[aD,di]at hr;obtain⟨rfl,rfl⟩:=hr;obtain⟨blk,hb,hl⟩:=Cf hcs;obtain⟨l1,l2,l',l3,l4⟩:=GH hW hg hb hl;obtain⟨d,hd⟩:=Qp hagg;refine Good.same hW (v':=.agg ⟨l'⟩) ?_ (.agg l2 l3);have:=KM (P:=P) (n:=n) (by rw[l3.length,l1]) l4;simp[execOp,Instr.loadAt,Instr.sureAddr,hx',loadVar,Ce hd,hagg,mP hs,this]
    ·cases hr
   ·cases hr
 ·rename_i hagg;split at hc
  ·rename_i d hd;cases hc;simp only[aF.run]at hr;split at hr
   ·rename_i i o ha;rw[ha]at hx;obtain⟨g,hg,hx'⟩:=hx.uJ;split at hr
    ·rename_i u hu0;simp only[aD,di]at hr;obtain⟨rfl,rfl⟩:=hr;obtain⟨cs,hcs,hu⟩:=Qr hu0;have h7:∀(j:Nat) v,cs[j]? =some v->∃v',w.cell? ⟨g.b,g.off+j,none⟩=some v'/\VR β v v':=by
      rcases hcs with hcs|hcs
      ·obtain⟨_,_,_,_,_,h7⟩:=hW.obj i g _ hg hcs;exact h7
      ·obtain⟨_,_,_,h7⟩:=hW.obj i g _ hg hcs;exact h7
     rw[sZ]at hu;obtain⟨v',a,b⟩:=h7 _ _ hu;refine Good.same hW (v':=v') ?_ b;have KU:jC P t=false:=by simpa using hagg
     simp[execOp,Instr.loadAt,Instr.sureAddr,hx',loadVar,Ce hd,KU,a]
    ·cases hr
   ·cases hr
  ·cases hc
theorem Yf{t:TypeId}{x y:Operand}(hc:cop P ⟨dst,.store t x y,type,pos,after,guard⟩=some c)(hr:c.run P ρ h=some (v,h'))(hx:VR β (ρ x) (ρ' x))(hy:VR β (ρ y) (ρ' y))(hW:WR P β h w):
 Good P β h w (execOp ρ' ⟨dst,.store t x y,type,pos,after,guard⟩) v h':=by
 simp only[cop]at hc;cases hs:jB P t with
 |none=>simp[hs]at hc
 |some n=>
  simp only[hs,jT,aD]at hc;subst hc;simp only[aF.run]at hr;split at hr
  ·rename_i i o vs ha hv;rw[ha]at hx;obtain⟨g,hg,hx'⟩:=hx.uJ;cases hb:Nat.beq (iL vs) n with
   |false=>rw[hb]at hr;cases hr
   |true=>
    rw[hb]at hr;simp only[cond_true]at hr;split at hr
    ·rename_i h1 hst;simp only[aD,di]at hr;obtain⟨rfl,rfl⟩:=hr;obtain⟨c1,vs',c2,c3⟩:=hy.cells hv;obtain⟨m1,m2,m3⟩:=KP hW hg hst c3 c1;refine⟨.skip,_,β,undef,?_,.inr ⟨rfl,rfl⟩,.dU _,m2,m3⟩;have hlen:vs'.length=n:=by rw[c3.length,<- xe];exact qo hb
     have hsz:((ρ' y).cells.size≠n)=False:=by simp[c2,hlen]
     simp[execOp,Instr.storeAt,Instr.sureAddr,hx',storeVar,mP hs,hsz,c2,m1 0 rfl,hlen]
    ·cases hr
  ·cases hr
end
end Go.Ideal
namespace Go.Ideal
variable {P:Program} {β:aG} {h:IH} {w:World}
section
variable {dst:Option Tmp} {type:TypeId} {pos:String} {after:Array Edge} {guard:Option (Nat×Bool)} {c:aF} {ρ ρ':Operand->Value} {v:Value} {h':IH}
theorem Yg{x:Operand}(hc:cop P ⟨dst,.nilCheck x,type,pos,after,guard⟩=some c)(hr:c.run P ρ h=some (v,h'))(hx:VR β (ρ x) (ρ' x))(hW:WR P β h w):
 Good P β h w (execOp ρ' ⟨dst,.nilCheck x,type,pos,after,guard⟩) v h':=by
 simp only[cop,aD]at hc;subst hc;simp only[aF.run]at hr;split at hr<;>simp only[aD,di,reduceCtorEq]at hr
 ·rename_i a ha;obtain⟨rfl,rfl⟩:=hr;rw[ha]at hx;refine Good.same hW (v':=ρ' x) ?_ hx;have:∃a',ρ' x=.pointer (some a'):=by
   generalize ρ' x=u at hx;cases hx with|ptr hi=>exact⟨_,rfl⟩
  obtain⟨a',e⟩:=this;simp[execOp,e]
 ·rename_i t u ha;obtain⟨rfl,rfl⟩:=hr;rw[ha]at hx;refine Good.same hW (v':=ρ' x) ?_ hx;obtain⟨u',_,e⟩:=hx.Aj;simp[execOp,e]
 ·rename_i f first captured ha
  obtain⟨rfl,rfl⟩:=hr;rw[ha]at hx;refine Good.same hW (v':=ρ' x) ?_ hx;obtain⟨fn',f',c',h1,_,_,e⟩:=hx.Ak;cases h1;simp[execOp,e]
 ·rename_i t n first captured ha
  obtain⟨rfl,rfl⟩:=hr;rw[ha]at hx;refine Good.same hW (v':=ρ' x) ?_ hx;obtain⟨fn',f',c',h1,_,_,e⟩:=hx.Ak;cases h1;simp[execOp,e]
 ·rename_i l first captured ha
  obtain⟨rfl,rfl⟩:=hr;rw[ha]at hx;refine Good.same hW (v':=ρ' x) ?_ hx;obtain⟨fn',f',c',h1,_,_,e⟩:=hx.Ak;cases h1;simp[execOp,e]
theorem tC(a b:Int):leZ a b=decide (a<=b):=by
 cases a<;>cases b<;>simp only[leZ]
 ·rename_i x y;rw[zP];simp[vH]
 ·rename_i x y;simp;omega
 ·rename_i x y;simp;omega
 ·rename_i x y;rw[zP];simp[vH];omega
theorem Eb(a b:Int):BN a b=(a==b):=by
 cases a<;>cases b<;>simp only[BN]
 ·rename_i x y;rw[zP];simp[Nat.beq_eq];omega
 ·rfl
 ·rfl
 ·rename_i x y;rw[zP];simp[Nat.beq_eq]
theorem KW(a b:Int):Qf a b=a+b:=by cases a<;>cases b<;>rfl
theorem Qy(a b:Int):Ky a b=a - b:=by
 cases a<;>cases b<;>simp only[Ky]
 rename_i x y;cases hb:Nat.ble y x with
 |true=>
  have:=mK hb;show Int.ofNat (x - y)=_;simp;omega
 |false=>
  have:¬y<=x:=λhh=>by rw[F9 hh]at hb;cases hb
  show Int.negSucc ((y - x).pred)=_;simp[Int.negSucc_eq,Nat.pred_eq_sub_one];omega
theorem Al(k:IntKind)(n:Int):DN k n=k.wrap n:=by
 have hmax:Kw=9223372036854775807:=rfl;have key:∀n:Int, -9223372036854775808<=n/\n<=9223372036854775807->n=IntKind.i64.wrap n:=λn hn=>(IntWalk.i64_in n hn).symm;unfold DN;split
 ·rename_i m;cases hb:Nat.ble m Kw with
  |true=>have:=mK hb;exact(cond_true _ _).trans (key _ (by rw[Int.ofNat_eq_natCast];omega))
  |false=>exact cond_false _ _
 ·rename_i m;cases hb:Nat.ble m 1000000 with
  |true=>
   have h1:=mK hb;have h2:(-1000001:Int)<=Int.negSucc m:=by rw[Int.negSucc_eq];omega
   have h3:Int.negSucc m<=0:=by rw[Int.negSucc_eq];omega
   exact(cond_true _ _).trans (key _ ⟨Int.le_trans (by decide) h2,Int.le_trans h3 (by decide)⟩)
  |false=>exact cond_false _ _
 ·rfl
theorem Qz{j k:IntKind}(h:uA j k=true):j=k:=by
 cases j<;>cases k<;>first|rfl|(simp[uA]at h)
theorem Yh{op:BinOp}{k:IntKind}{a b:Int}{v:Value}{t:TypeId}(h:oZ op k a b=some v)(w:World):(binOp op t (.int k a) (.int k b)).run P w=.ok v w:=by
 unfold oZ at h;split at h<;>simp only[aD,reduceCtorEq]at h<;>subst h
 ·simp[binOp,Op.intArith,Al,KW]
 ·simp[binOp,Op.intArith,Al,Qy]
 ·simp[binOp,Op.intCmp,Eb]
 ·simp[binOp,Op.intCmp,Eb];rfl
 ·simp[binOp,Op.intCmp,tC,<- Int.not_le]
 ·simp[binOp,Op.intCmp,tC,<- Int.not_le]
 ·simp[binOp,Op.intCmp,tC,<- Int.not_le]
 ·simp[binOp,Op.intCmp,tC,<- Int.not_le]
theorem KX(op:BinOp)(t:TypeId)(x y:Operand)(a b:Value)(w:World)(h1:∀u,a≠.agg u)(h2:¬(a=.nilIface/\b=.nilIface)):(eqGuard op t x y a b).run P w=.ok () w:=by
 cases op<;>first
  |rfl
  |(cases a<;>first
   |rfl
   |exact absurd rfl (h1 _)
   |(cases b<;>first
    |rfl
    |exact absurd ⟨rfl,rfl⟩ h2))
theorem Yi(d:Nat){t:TypeId}{a b a' b':Value}{r:Bool}(h:sV P t a b=some r)(ha:VR β a a')(hb:VR β b b')(w:World):
 (Op.equalIn (d+1) t a' b').run P w=.ok r w/\(∀u,a'≠.agg u)/\¬(a'=.nilIface/\b'=.nilIface)/\(∀k n,a'≠.int k n)/\(∀s,a'≠.string s)/\(∀k n,a'≠.float k n)/\(∀k n m,a'≠.complex k n m):=by
 cases hu:P.underlying t with
 |none=>unfold sV at h;simp[hu]at h
 |some ty=>
  unfold sV at h;rw[hu]at h;split at h<;>simp only[aD,reduceCtorEq]at h<;>subst h
  all_goals
   have he:=‹some ty=some _›;obtain rfl:=Option.some.inj he;cases ha<;>cases hb<;>refine⟨?_,by simp,by simp,by simp,by simp,by simp,by simp⟩<;>(unfold Op.equalIn;simp only[dG,fJ hu,dJ];rfl)
theorem QA{t:TypeId}{a b a' b':Value}{r:Bool}(h:sV P t a b=some r)(ha:VR β a a')(hb:VR β b b')(w:World):
 (Op.equal t a' b').run P w=.ok r w/\(∀u,a'≠.agg u)/\¬(a'=.nilIface/\b'=.nilIface)/\(∀k n,a'≠.int k n)/\(∀s,a'≠.string s)/\(∀k n,a'≠.float k n)/\(∀k n m,a'≠.complex k n m):=
 Yi 9999 h ha hb w
theorem Ec{s:Sem Value}{v:Value}(h:kK P s=some v):eD P s=some v/\cK v=true:=by
 unfold kK at h;split at h
 ·rename_i u hu;cases hf:cK u with
  |true=>rw[hf]at h;simp only[cond_true,aD]at h;subst h;exact⟨hu,hf⟩
  |false=>rw[hf]at h;cases h
 ·cases h
theorem Yj{op:BinOp}{t:TypeId}{x y:Operand}{yt:TypeId}(hc:cop P ⟨dst,.binOp op t x y yt,type,pos,after,guard⟩=some c)(hr:c.run P ρ h=some (v,h'))(hx:VR β (ρ x) (ρ' x))(hy:VR β (ρ y) (ρ' y))(hW:WR P β h w):
 Good P β h w (execOp ρ' ⟨dst,.binOp op t x y yt,type,pos,after,guard⟩) v h':=by
 simp only[cop,aD]at hc;subst hc;simp only[aF.run]at hr;split at hr
 ·rename_i u hu;simp only[aD,di]at hr;obtain⟨rfl,rfl⟩:=hr;unfold mg at hu;split at hu
  · -- integers
    rename_i v1 hv1;simp only[aD]at hu;subst hu;split at hv1
    ·rename_i j m k n hm hn;cases hk:uA j k with
     |false=>rw[hk]at hv1;cases hv1
     |true=>
      rw[hk]at hv1;simp only[cond_true]at hv1;have:=Qz hk;subst this;rw[hm]at hx;rw[hn]at hy;have hx':=hx.mo;have hy':=hy.mo;have hfree:cK v1=true:=by
       unfold oZ at hv1;split at hv1<;>simp only[aD,reduceCtorEq]at hv1<;>subst hv1<;>rfl
      refine Good.same hW (v':=v1) ?_ (VR.free hfree);simp only[execOp,hx',hy',dG,KX op t x y (.int j m) (.int j n) w (by simp) (by simp),dJ,Yh hv1,fw]
    ·cases hv1
  ·cases hf:cK (ρ x)&&cK (ρ y)with
   |true=>
    rw[hf]at hu;simp only[cond_true]at hu;simp only[fe]at hf;have hx':=hx.qb hf.1;have hy':=hy.qb hf.2;obtain⟨hu1,hu2⟩:=Ec hu;have hrun:=yL hu1 w;refine Good.same hW (v':=u) ?_ (VR.free hu2);simp only[execOp,hx',hy'];simp only[dG]at hrun⊢;rw[hrun];rfl
   |false=>
    rw[hf]at hu;simp only[cond_false]at hu;have QB:∀(a b:Value),(∀k n,a≠.int k n)->(∀s,a≠.string s)->(∀k n,a≠.float k n)->(∀k n m,a≠.complex k n m)->
     binOp .eql t a b=(do pure (.bool (<- Op.equal t a b)))/\binOp .neq t a b=(do pure (.bool (!(<- Op.equal t a b)))):=by
     intro a b h1 h2 h3 h4;constructor<;>unfold binOp<;>cases a<;>first|rfl|exact absurd rfl (h1 _ _)|exact absurd rfl (h2 _)|exact absurd rfl (h3 _ _)|exact absurd rfl (h4 _ _ _)
    split at hu
    ·split at hu
     ·rename_i r hr2;simp only[aD]at hu;subst hu;obtain⟨e1,e2,e3,e4,e5,e6,e7⟩:=QA hr2 hx hy w;refine Good.same hW (v':=.bool r) ?_ (.bool r);simp only[execOp,dG,KX _ t x y _ _ w e2 e3,dJ,(QB _ _ e4 e5 e6 e7).1,e1,fw]
     ·cases hu
    ·split at hu
     ·rename_i r hr2;simp only[aD]at hu;subst hu;obtain⟨e1,e2,e3,e4,e5,e6,e7⟩:=QA hr2 hx hy w;refine Good.same hW (v':=.bool !r) ?_ (.bool _);simp only[execOp,dG,KX _ t x y _ _ w e2 e3,dJ,(QB _ _ e4 e5 e6 e7).2,e1,fw]
     ·cases hu
    ·cases hu
 ·cases hr
theorem Yk{op:UnOp}{t:TypeId}{x:Operand}(hc:cop P ⟨dst,.unOp op t x,type,pos,after,guard⟩=some c)(hr:c.run P ρ h=some (v,h'))(hx:VR β (ρ x) (ρ' x))(hW:WR P β h w):
 Good P β h w (execOp ρ' ⟨dst,.unOp op t x,type,pos,after,guard⟩) v h':=by
 simp only[cop,aD]at hc;subst hc;simp only[aF.run]at hr;cases hf:cK (ρ x)with
 |false=>rw[hf]at hr;cases hr
 |true=>
  rw[hf]at hr;simp only[cond_true]at hr;split at hr
  ·rename_i u hu;simp only[aD,di]at hr;obtain⟨rfl,rfl⟩:=hr;obtain⟨h1,h2⟩:=Ec hu;have hx':=hx.qb hf;exact Good.same hW (v':=u) (by simp only[execOp,hx',dG,yL h1 w,dJ,fw]) (VR.free h2)
  ·cases hr
theorem Yl{t:TypeId}{x:Operand}(hc:cop P ⟨dst,.makeInterface t x,type,pos,after,guard⟩=some c)(hr:c.run P ρ h=some (v,h'))(hx:VR β (ρ x) (ρ' x))(hW:WR P β h w):
 Good P β h w (execOp ρ' ⟨dst,.makeInterface t x,type,pos,after,guard⟩) v h':=by
 simp only[cop]at hc;split at hc
 ·cases hc
 ·rename_i d hni hu;cases hc;simp only[aF.run,aD,di]at hr;obtain⟨rfl,rfl⟩:=hr;refine Good.same hW (v':=.iface t (ρ' x)) ?_ (.iface t hx);simp only[execOp,Instr.makeInterface,dG,fJ hu,dJ];cases d<;>first|rfl|exact absurd rfl (hni _)
 ·cases hc
theorem FR.refl{fn:Fn}(h:Gx fn=true):FR β fn fn:=by
 cases fn with
 |func f=>exact .func f
 |method n=>exact .method n
 |methodOf t n=>exact .methodOf t n
 |via=>simp[Gx]at h
 |yield l=>simp[Gx]at h
theorem Ym{fn:Fn}{first captured:Array Operand}(hc:cop P ⟨dst,.makeFunc fn first captured,type,pos,after,guard⟩=some c)(hr:c.run P ρ h=some (v,h'))
 (hf:∀x∈first.toList,VR β (ρ x) (ρ' x)) (hk:∀x∈captured.toList,VR β (ρ x) (ρ' x)) (hW:WR P β h w):
 Good P β h w (execOp ρ' ⟨dst,.makeFunc fn first captured,type,pos,after,guard⟩) v h':=by
 simp only[cop]at hc;split at hc
 ·rename_i hfn;cases hc;simp only[aF.run,aD,di]at hr;obtain⟨rfl,rfl⟩:=hr;refine Good.same hW (v':=.func fn (first.map ρ') (captured.map ρ')) (by simp[execOp,Instr.makeFunc]) ?_;have e1:first.map ρ'=⟨first.toList.map ρ'⟩:=by apply Array.ext';rw[Kh]
  have e2:captured.map ρ'=⟨captured.toList.map ρ'⟩:=by apply Array.ext';rw[Kh]
  rw[e1,e2];exact .func (FR.refl hfn) (aW.of_map hf) (aW.of_map hk)
 ·cases hc
theorem Yn{a:Addr}{f:Field}{n:Nat}(hs:jB P f.type=some n)(hn:0<n)(w:World):(fieldPlace a f).run P w=.ok (a.add f.offset) w:=by
 simp only[fieldPlace,dG,mP hs,dJ];rw[if_neg (by omega)];rfl
theorem Yo{s:TypeId}{x:Operand}{f:Nat}(hc:cop P ⟨dst,.fieldAddr s x f,type,pos,after,guard⟩=some c)(hr:c.run P ρ h=some (v,h'))(hx:VR β (ρ x) (ρ' x))(hW:WR P β h w):
 Good P β h w (execOp ρ' ⟨dst,.fieldAddr s x f,type,pos,after,guard⟩) v h':=by
 simp only[cop]at hc;split at hc
 ·rename_i fs hu;split at hc
  ·rename_i fd Ea;cases hs:nG P fd.type with
   |none=>simp[hs]at hc
   |some n=>
    simp only[hs,jT,aD]at hc;subst hc;obtain⟨hs1,hs2⟩:=tu hs;simp only[aF.run]at hr;split at hr
    ·rename_i i o ha;rw[ha]at hx;obtain⟨g,hg,hx'⟩:=hx.uJ;simp only[aD,di]at hr;obtain⟨rfl,rfl⟩:=hr;refine Good.same hW (v':=.pointer (some ⟨g.b,g.off+(o+fd.offset),none⟩)) ?_ (.ptr hg);simp only[execOp,Instr.fieldAt,dG,fJ hu,dJ,Ea,hx',Instr.sureAddr,fw,Yn hs1 hs2,addr_add,qw]
    ·cases hr
  ·cases hc
 ·cases hc
theorem QC{t:TypeId}{cs cs':List Value}{off n:Nat}{d:TypeDesc}(hd:P.underlying t=some d)(hs:jB P t=some n)(hv:aW β cs cs')(hall:cs.all cellV=true){v:Value}
 (hr:(match jC P t with
   |true=>match jf (jH cs off) n with
    |some l=>some (.agg ⟨l⟩:Value)
    |none=>none
   |false=>jU cs off)=some v) (w:World):∃v',(part t ⟨cs'⟩ off).run P w=.ok v' w/\VR β v v':=by
 cases hagg:jC P t with
 |true=>
  rw[hagg]at hr;simp only at hr;rw[qD,p9]at hr;split at hr
  ·rename_i l hl;split at hl
   ·rename_i hn;cases hl;simp only[aD]at hr;subst hr;refine⟨.agg ⟨(cs'.drop off).take n⟩,?_,.agg ?_ ((hv.drop off).take n)⟩
    ·simp only[part,dG,Ce hd,hagg,dJ,if_true,mP hs,fw];congr 2;apply Array.ext';simp[Array.toList_extract,PL]
    ·rw[lK]at hall⊢;exact λx hx=>hall x (List.mem_of_mem_drop (BJ hx))
   ·cases hl
  ·cases hr
 |false=>
  rw[hagg]at hr;simp only at hr;rw[sZ]at hr;obtain⟨v',h1,h2⟩:=hv.get hr;refine⟨v',?_,h2⟩;simp only[part,dG,Ce hd,hagg,dJ,vJ,if_false];have:(⟨cs'⟩:Array Value)[off]? =some v':=by simpa using h1
  simp[this]
theorem Yp{t:TypeId}{x:Operand}{f:Nat}(hc:cop P ⟨dst,.field t x f,type,pos,after,guard⟩=some c)(hr:c.run P ρ h=some (v,h'))(hx:VR β (ρ x) (ρ' x))(hW:WR P β h w):
 Good P β h w (execOp ρ' ⟨dst,.field t x f,type,pos,after,guard⟩) v h':=by
 simp only[cop]at hc;split at hc
 ·rename_i fs hu;split at hc
  ·rename_i fd Ea;split at hc
   ·rename_i n d hs hd;cases hc;simp only[aF.run]at hr;split at hr
    ·rename_i cs ha;rw[ha]at hx;obtain⟨cs',h1,h2,hx'⟩:=hx.KQ;have hr':h'=h/\(match jC P fd.type with
      |true=>match jf (jH cs fd.offset) n with
       |some l=>some (.agg ⟨l⟩:Value)
       |none=>none
      |false=>jU cs fd.offset)=some v:=by
      cases hagg:jC P fd.type with
      |true=>
       rw[hagg]at hr;simp only at hr⊢;split at hr
       ·rename_i l hl;rw[hl];simp only[aD,di]at hr⊢;exact⟨hr.2.symm,hr.1⟩
       ·cases hr
      |false=>
       rw[hagg]at hr;simp only at hr⊢;split at hr
       ·rename_i l hl;rw[hl];simp only[aD,di]at hr⊢;exact⟨hr.2.symm,hr.1⟩
       ·cases hr
     obtain⟨rfl,hr2⟩:=hr';obtain⟨v',p1,p2⟩:=QC hd hs h1 h2 hr2 w;refine Good.same hW (v':=v') ?_ p2;simp only[execOp,Instr.field,dG,fJ hu,dJ,Ea,hx',asAgg,fw,p1]
    ·cases hr
   ·cases hc
  ·cases hc
 ·cases hc
theorem Yq{t:TypeId}{x y:Operand}(hc:cop P ⟨dst,.indexAddr t x y,type,pos,after,guard⟩=some c)(hr:c.run P ρ h=some (v,h'))(hx:VR β (ρ x) (ρ' x))(hy:VR β (ρ y) (ρ' y))(hW:WR P β h w):
 Good P β h w (execOp ρ' ⟨dst,.indexAddr t x y,type,pos,after,guard⟩) v h':=by
 simp only[cop]at hc;split at hc
 ·rename_i n e hu;cases hs:nG P e with
  |none=>simp[hs]at hc
  |some s=>
   simp only[hs,jT,aD]at hc;subst hc;obtain⟨hs1,hs2⟩:=tu hs;simp only[aF.run]at hr;split at hr
   ·rename_i b o k i ha hi;rw[ha]at hx;rw[hi]at hy;obtain⟨g,hg,hx'⟩:=hx.uJ;have hy':=hy.mo;cases hb:Nat.blt i n with
    |false=>rw[hb]at hr;cases hr
    |true=>
     rw[hb]at hr;simp only[cond_true,aD,di]at hr;obtain⟨rfl,rfl⟩:=hr;have hlt:i<n:=by simpa[sJ]using hb
     refine Good.same hW (v':=.pointer (some ⟨g.b,g.off+Nat.add o (Nat.mul i s),none⟩)) ?_ (.ptr hg);simp only[execOp,Instr.indexAt,dG,hy',asIntOf,fw,dJ,fJ hu,hx',Instr.sureAddr];rw[if_pos ⟨by simp,by simp;omega⟩];simp[mP hs1,addr_add,qw]
   ·cases hr
 ·rename_i e hu;cases hs:nG P e with
  |none=>simp[hs]at hc
  |some s=>
   simp only[hs,jT,aD]at hc;subst hc;obtain⟨hs1,hs2⟩:=tu hs;simp only[aF.run]at hr;split at hr
   ·rename_i b o f n k' k i ha hi;rw[ha]at hx;rw[hi]at hy;obtain⟨g,a,c',hg,hx',ha1,ha2,hn,hcc,hoff,_⟩:=hx.nT;have hy':=hy.mo;cases hb:Nat.blt i n with
    |false=>rw[hb]at hr;cases hr
    |true=>
     rw[hb]at hr;simp only[cond_true,aD,di]at hr;obtain⟨rfl,rfl⟩:=hr;have hlt:i<n:=by simpa[sJ]using hb
     have hae:a=⟨g.b,g.off+o,none⟩:=by
      rcases hoff with h0|⟨h0,ha2⟩
      ·omega
      ·obtain⟨ab,ao,as⟩:=a;simp at ha1 ha2 h0;subst ha1 ha2 h0;rfl
     refine Good.same hW (v':=.pointer (some ⟨g.b,g.off+Nat.add o (Nat.mul i s),none⟩)) ?_ (.ptr hg);simp only[execOp,Instr.indexAt,dG,hy',asIntOf,fw,dJ,fJ hu,hx',hae];rw[if_pos ⟨by simp,by simp;omega⟩];simp[mP hs1,addr_add,qw]
   ·cases hr
 ·cases hc
theorem Yr{x:Operand}{i:Nat}(hc:cop P ⟨dst,.extract x i,type,pos,after,guard⟩=some c)(hr:c.run P ρ h=some (v,h'))(hx:VR β (ρ x) (ρ' x))(hW:WR P β h w):
 Good P β h w (execOp ρ' ⟨dst,.extract x i,type,pos,after,guard⟩) v h':=by
 simp only[cop,aD]at hc;subst hc;simp only[aF.run]at hr;split at hr
 ·rename_i vs ha;split at hr
  ·rename_i u hu;simp only[aD,di]at hr;obtain⟨rfl,rfl⟩:=hr;rw[ha]at hx;rw[sZ]at hu;generalize hy:ρ' x=y at hx;cases hx with
   |dU=>simp at hu
   |tuple hl=>
    obtain⟨v',h1,h2⟩:=hl.get hu;refine Good.same hW (v':=v') ?_ h2;rename_i l';have:(⟨l'⟩:Array Value)[i]? =some v':=by simpa using h1
    simp[execOp,Instr.extract,hy,this]
  ·cases hr
 ·cases hr
end
end Go.Ideal
namespace Go.Ideal
variable {P:Program} {β:aG} {h:IH} {w:World}
theorem Am{m:Nat}{v:Value}{i:Nat}(h:upTo m v=some i):∃k,v=.int k i/\i<=m:=by
 unfold upTo at h;split at h
 ·rename_i k n;cases hb:Nat.ble n m with
  |true=>rw[hb]at h;simp only[cond_true,aD]at h;subst h;exact⟨k,rfl,mK hb⟩
  |false=>rw[hb]at h;cases h
 ·cases h
theorem xu{v:Value}{y m i:Nat}{code:BoundsCode}(h:upTo m v=some i)(hm:m<=y)(w:World):(Instr.sliceBound v y code).run P w=.ok i w:=by
 obtain⟨k,rfl,hle⟩:=Am h;simp only[Instr.sliceBound,asIntOf,dG,fw,dJ];rw[if_pos ⟨by omega,by omega⟩];simp
theorem Ed{len cap:Nat}{lo hi mx:Option Value}{l hh m:Nat}(h:bounds? len cap lo hi mx=some (l,hh,m)):
 (∀v,mx=some v->upTo cap v=some m)/\(mx=none->m=cap)/\(∀v,hi=some v->upTo m v=some hh)/\(hi=none->mx=none/\hh=len)/\
 (∀v,lo=some v->upTo hh v=some l)/\(lo=none->l=0):=by
 unfold bounds? at h;split at h
 ·cases h
 ·rename_i m' hm;split at h
  ·cases h
  ·rename_i h1 hhi;split at h
   ·cases h
   ·rename_i l1 hlo;simp only[aD,di]at h;obtain⟨rfl,rfl,rfl⟩:=h;refine⟨?_,?_,?_,?_,?_,?_⟩
    ·rintro v rfl;exact hm
    ·rintro rfl;simp at hm;exact hm.symm
    ·rintro v rfl;exact hhi
    ·rintro rfl;cases mx with
     |some v=>simp at hhi
     |none=>simp at hhi;exact⟨rfl,hhi.symm⟩
    ·rintro v rfl;exact hlo
    ·rintro rfl;simp at hlo;exact hlo.symm
theorem KY{len cap:Nat}{lo hi mx:Option Value}{l hh m:Nat}(h:bounds? len cap lo hi mx=some (l,hh,m))(hlc:len<=cap):l<=hh/\hh<=m/\m<=cap:=by
 obtain⟨h1,h2,h3,h4,h5,h6⟩:=Ed h;refine⟨?_,?_,?_⟩
 ·cases lo with
  |some v=>obtain⟨_,_,hle⟩:=Am (h5 v rfl);exact hle
  |none=>rw[h6 rfl];exact bR _
 ·cases hi with
  |some v=>obtain⟨_,_,hle⟩:=Am (h3 v rfl);exact hle
  |none=>obtain⟨q1,q2⟩:=h4 rfl;rw[q2,h2 q1];exact hlc
 ·cases mx with
  |some v=>obtain⟨_,_,hle⟩:=Am (h1 v rfl);exact hle
  |none=>rw[h2 rfl];exact bT _
theorem GM{Ee:Bool}{len cap cap':Nat}{lo hi mx:Option Value}{l hh m:Nat}(h:bounds? len cap lo hi mx=some (l,hh,m))(hc:cap<=cap')(w:World):
 (Instr.sliceBounds Ee len cap' lo hi mx).run P w=.ok (l,hh,if mx.isSome then m else cap') w:=by
 obtain⟨h1,h2,h3,h4,h5,h6⟩:=Ed h;unfold Instr.sliceBounds;cases mx with
 |some v=>
  have h1:=h1 v rfl;cases hi with
  |none=>exact absurd (h4 rfl).1 (by simp)
  |some u=>
   have h3:=h3 u rfl;cases lo with
   |none=>have h6:=h6 rfl;subst h6;simp[xu h1 hc,xu h3 (bT _)]
   |some x=>have h5:=h5 x rfl;simp[xu h1 hc,xu h3 (bT _),xu h5 (bT _)]
 |none=>
  have h2:=h2 rfl;subst h2;cases hi with
  |none=>
   obtain⟨_,rfl⟩:=h4 rfl;cases lo with
   |none=>have h6:=h6 rfl;subst h6;simp
   |some x=>have h5:=h5 x rfl;simp[xu h5 (bT _)]
  |some u=>
   have h3:=h3 u rfl;cases lo with
   |none=>have h6:=h6 rfl;subst h6;simp[xu h3 hc]
   |some x=>have h5:=h5 x rfl;simp[xu h3 hc,xu h5 (bT _)]
theorem KZ{len cap:Nat}{lo hi mx:Option Value}{l hh m:Nat}(h:bounds? len cap lo hi mx=some (l,hh,m)):(if mx.isSome then m else cap)=m:=by
 obtain⟨_,h2,_⟩:=Ed h;cases mx with
 |some v=>rfl
 |none=>rw[h2 rfl];rfl
theorem K3{len cap:Nat}{lo hi mx:Option Operand}{ρ ρ':Operand->Value}{r:Nat×Nat×Nat}(h:bounds? len cap (jm ρ lo) (jm ρ hi) (jm ρ mx)=some r)
 (hl:∀x,lo=some x->VR β (ρ x) (ρ' x)) (hh:∀x,hi=some x->VR β (ρ x) (ρ' x)) (hm:∀x,mx=some x->VR β (ρ x) (ρ' x)):
 lo.map ρ'=jm ρ lo/\hi.map ρ'=jm ρ hi/\mx.map ρ'=jm ρ mx:=by
 obtain⟨l,hi2,m⟩:=r;obtain⟨h1,_,h3,_,h5,_⟩:=Ed h;refine⟨?_,?_,?_⟩
 ·cases lo with
  |none=>rfl
  |some x=>
   obtain⟨k,hk,_⟩:=Am (h5 _ rfl);have:=hl x rfl;rw[hk]at this;simp[jm,hk,this.mo]
 ·cases hi with
  |none=>rfl
  |some x=>
   obtain⟨k,hk,_⟩:=Am (h3 _ rfl);have:=hh x rfl;rw[hk]at this;simp[jm,hk,this.mo]
 ·cases mx with
  |none=>rfl
  |some x=>
   obtain⟨k,hk,_⟩:=Am (h1 _ rfl);have:=hm x rfl;rw[hk]at this;simp[jm,hk,this.mo]
section
variable {dst:Option Tmp} {type:TypeId} {pos:String} {after:Array Edge} {guard:Option (Nat×Bool)} {c:aF} {ρ ρ':Operand->Value} {v:Value} {h':IH}
theorem Yt{t:TypeId}{x:Operand}{lo hi mx:Option Operand}(hc:cop P ⟨dst,.slice t x lo hi mx,type,pos,after,guard⟩=some c)(hr:c.run P ρ h=some (v,h'))(hx:VR β (ρ x) (ρ' x))
 (hl:∀x,lo=some x->VR β (ρ x) (ρ' x)) (hh:∀x,hi=some x->VR β (ρ x) (ρ' x)) (hm:∀x,mx=some x->VR β (ρ x) (ρ' x)) (hW:WR P β h w):
 Good P β h w (execOp ρ' ⟨dst,.slice t x lo hi mx,type,pos,after,guard⟩) v h':=by
 simp only[cop]at hc;split at hc
 · -- a string
   rename_i hu;cases hc;simp only[aF.run]at hr;split at hr
   ·rename_i s hs;split at hr
    ·rename_i b hb;split at hr
     ·rename_i u hu2;simp only[aD,di]at hr;obtain⟨rfl,rfl⟩:=hr;obtain⟨h1,h2⟩:=Ec hu2;rw[hs]at hx;have hx':=hx.Ai;obtain⟨e1,e2,e3⟩:=K3 hb hl hh hm;refine Good.same hW (v':=u) ?_ (VR.free h2);simp only[execOp,Instr.sliceAt,dG,fJ hu,dJ,hx',e1,e2,e3,yL h1 w,fw]
     ·cases hr
    ·cases hr
   ·cases hr
 · -- an array
   rename_i n e hu;cases hs:nG P e with
   |none=>simp[hs]at hc
   |some s=>
    simp only[hs,jT,aD]at hc;subst hc;obtain⟨hs1,hs2⟩:=tu hs;simp only[aF.run]at hr;split at hr
    ·rename_i i o ha;split at hr
     ·rename_i l h1 m hb;simp only[aD,di]at hr;obtain⟨rfl,rfl⟩:=hr;rw[ha]at hx;obtain⟨g,hg,hx'⟩:=hx.uJ;obtain⟨e1,e2,e3⟩:=K3 hb hl hh hm;have b1:=GM (P:=P) (Ee:=false) hb (bT _) w;rw[KZ hb]at b1;have hlen:=KY hb (bT _);refine Good.same hW (v':=.slice (some (if m=l then(⟨g.b,g.off+o,none⟩:Addr)else(⟨g.b,g.off+o,none⟩:Addr).add (l*s))) (h1 - l) (m - l)) ?_ ?_
      ·simp only[execOp,Instr.sliceAt,dG,fJ hu,dJ,hx',Instr.sureAddr,fw,e1,e2,e3,b1,mP hs1]
      ·refine .ak hg ?_ (by show h1 - l<=m - l;omega) ?_
       ·split<;>simp[addr_add]
       ·by_cases hml:m=l
        ·left;show m - l=0;omega
        ·right;rw[if_neg hml,addr_add];simp[qw]
     ·cases hr
    ·cases hr
 · -- a slice
   rename_i e hu;cases hs:nG P e with
   |none=>simp[hs]at hc
   |some s=>
    simp only[hs,jT,aD]at hc;subst hc;obtain⟨hs1,hs2⟩:=tu hs;simp only[aF.run]at hr;split at hr
    ·rename_i a len cap ha;split at hr
     ·rename_i l h1 m hb;rw[ha]at hx;obtain⟨e1,e2,e3⟩:=K3 hb hl hh hm;split at hr
      · -- nil
        simp only[aD,di]at hr;obtain⟨rfl,rfl⟩:=hr;have hx':ρ' x=.slice none len cap:=by generalize ρ' x=y at hx;cases hx;rfl
        have b1:=GM (P:=P) (Ee:=true) hb (bT _) w;rw[KZ hb]at b1;refine Good.same hW (v':=.slice none (h1 - l) (m - l)) ?_ (.sl0 _ _);simp only[execOp,Instr.sliceAt,Instr.slice,dG,fJ hu,dJ,hx',e1,e2,e3,b1,mP hs1,fw];split<;>rfl
      · -- of known capacity
        rename_i i o;simp only[aD,di]at hr;obtain⟨rfl,rfl⟩:=hr;obtain⟨g,a',c',hg,hx',ha1,ha2,hn,hcc,hoff,hkind⟩:=hx.nT;have hc':c'=cap:=by
         rcases hkind with hk|hk
         ·exact hk.2
         ·have:=hk.1;simp at this;omega
        subst hc';have b1:=GM (P:=P) (Ee:=true) hb (bT _) w;rw[KZ hb]at b1;have hlen:=KY hb hn;obtain⟨ab,ao,as⟩:=a';simp only at ha1 hoff;subst ha1;refine Good.same hW (v':=.slice (some (if m=l then(⟨g.b,ao,as⟩:Addr)else(⟨g.b,ao,as⟩:Addr).add (l*s))) (h1 - l) (m - l)) ?_ ?_
        ·simp only[execOp,Instr.sliceAt,Instr.slice,dG,fJ hu,dJ,hx',e1,e2,e3,b1,mP hs1,fw];split<;>rfl
        ·refine .ak hg ?_ (by show h1 - l<=m - l;omega) ?_
         ·split
          ·rfl
          ·simp only[Addr.add];split<;>rfl
         ·by_cases hml:m=l
          ·left;show m - l=0;omega
          ·right;rw[if_neg hml];rcases hoff with h0|⟨h0,hs0⟩
           ·omega
           ·subst h0 hs0;rw[addr_add];simp[qw]
      · -- grown
        rename_i i o k;cases hbk:Nat.beq (Nat.succ k) s with
        |false=>rw[hbk]at hr;cases hr
        |true=>
         rw[hbk]at hr;have hks:k+1=s:=qo hbk;simp only[cond_true,aD,di]at hr;obtain⟨rfl,rfl⟩:=hr;obtain⟨g,a',c',hg,hx',ha1,ha2,hn,hcc,hoff,hkind⟩:=hx.nT;obtain⟨hsz,hpos,hl1,hl2,ha2⟩:g.sz=s/\0<g.sz/\o+cap*g.sz=g.len/\g.off+o+c'*g.sz=g.top/\a'.spot=none:=by
          rcases hkind with hk|hk
          ·have:=hk.1;simp at this
          ·have:=hk.1;simp at this;exact⟨by omega,hk.2.1,hk.2.2.1,hk.2.2.2⟩
         have b1:=GM (P:=P) (Ee:=true) hb hcc w;have hlen:=KY hb hn;have K4:c'=0\/a'.off=g.off+o:=hoff.imp id (·.1);clear hoff;obtain⟨ab,ao,as⟩:=a';simp only at ha1 ha2 K4;subst ha1 ha2;have hrun:∀m',(Instr.sliceBounds true len c' (jm ρ lo) (jm ρ hi) (jm ρ mx)).run P w=.ok (l,h1,m') w->
          (execOp ρ' ⟨dst,.slice t x lo hi mx,type,pos,after,guard⟩).run P w=.ok (.value (.slice (some (if m'=l then(⟨g.b,ao,none⟩:Addr)else(⟨g.b,ao,none⟩:Addr).add (l*s))) (h1 - l) (m' - l))) w:=by
          intro m' hm';simp only[execOp,Instr.sliceAt,Instr.slice,dG,fJ hu,dJ,hx',e1,e2,e3,hm',mP hs1,fw];split<;>rfl
         cases hmx:mx with
         |some xx=>
          subst hmx;have hmm:(if(jm ρ (some xx)).isSome then m else c')=m:=rfl;rw[hmm]at b1;refine Good.same hW (hrun m b1) ?_;refine .ak hg ?_ (by show h1 - l<=m - l;omega) ?_
          ·split<;>simp[addr_add]
          ·by_cases hml:m=l
           ·left;show m - l=0;omega
           ·right;rw[if_neg hml,addr_add];rcases K4 with h0|h0
            ·omega
            ·have h0':ao=g.off+o:=h0;refine⟨?_,rfl⟩;show ao+l*s=g.off+(o+l*s)
             omega
         |none=>
          subst hmx;have hmm:(if(jm ρ (none:Option Operand)).isSome then m else c')=c':=rfl;rw[hmm]at b1;have Yu:m=cap:=by
           obtain⟨_,q1,_⟩:=Ed hb;exact q1 rfl
          subst Yu;refine Good.same hW (hrun c' b1) ?_;have Yv:(some (Nat.succ k):Option Nat)=some g.sz:=by rw[hsz,<- hks]
          simp only[Yv];have hlc:l*s+(m - l)*s=m*s:=by rw[<- ru];congr 1;omega
          have akh:l*s+(c' - l)*s=c'*s:=by rw[<- ru];congr 1;omega
          refine .qa hg ?_ ?_ (by show h1 - l<=m - l;omega) hpos ?_ ?_ (by show m - l<=c' - l;omega) ?_
          ·split<;>simp[addr_add]
          ·split<;>simp[addr_add]
          ·show o+l*s+(m - l)*g.sz=g.len;rw[hsz]at hl1⊢;omega
          ·show g.off+(o+l*s)+(c' - l)*g.sz=g.top;rw[hsz]at hl2⊢;omega
          ·by_cases hml:c'=l
           ·left;omega
           ·right;rw[if_neg hml,addr_add];rcases K4 with h0|h0
            ·omega
            ·subst h0;simp[qw]
      ·cases hr
     ·cases hr
    ·cases hr
 ·cases hc
end
end Go.Ideal
namespace Go.Ideal
variable {P:Program} {β:aG} {h:IH} {w:World}
theorem ig{α γ:Type}(s:Sem α)(f:α->Sem γ):eD P (s>>=f)=(eD P s).bind λa=>eD P (f a):=by
 show eD P (Sem.bind s f)=_;induction s with
 |pure a=>rfl
 |program k ih=>exact ih _
 |mark m k ih=>exact ih
 |_=>rfl
theorem K5{kt:TypeId}{k:Value}(h:rz P kt k=true)(b:Bool)(w:World):(Instr.checkKey b 10000 kt k).run P w=.ok () w:=by
 unfold rz at h;simp only[fe]at h;obtain⟨_,h⟩:=h;split at h
 ·rename_i x y hx hy;cases b
  ·exact yL hy w
  ·exact yL hx w
 ·cases h
theorem K6{kt:TypeId}{k:Value}(h:rz P kt k=true):cK k=true:=by
 unfold rz at h;simp only[fe]at h;exact h.1
inductive Ef(β:aG):Option (Nat×Value)->Option (Nat×Value)->Prop
 |none:Ef β none none
 |some (i:Nat) {v v':Value} (h:VR β v v'):Ef β (some (i,v)) (some (i,v'))
theorem Yw{kd:TypeDesc}{k:Value}{es es':List MapEntry}(he:gp β es es'):∀(i:Nat),
 (∀r,Instr.findNow kd k es i=some r->∃r',Instr.findNow kd k es' i=some r'/\Ef β r r')/\(Instr.findNow kd k es i=none->Instr.findNow kd k es' i=none):=by
 induction he with
 |nil=>intro i;exact⟨λr hr=>by simp only[Instr.findNow,aD]at hr;subst hr;exact⟨_,rfl,.none⟩,λhr=>by simp[Instr.findNow]at hr⟩
 | @cons e e' l l' hk hf hb hv hl ih=>
   intro i;simp only[Instr.findNow,hk];cases hs:Instr.sameNow kd k e.key with
   |none=>exact⟨λr hr=>(by cases hr),λ_=>rfl⟩
   |some b=>cases b with
    |true=>exact⟨λr hr=>by simp only[aD]at hr;subst hr;exact⟨_,rfl,.some i hv⟩,λhr=>by simp at hr⟩
    |false=>exact ih (i+1)
theorem Yx{kt:TypeId}{k:Value}{es es':List MapEntry}(he:gp β es es')(w:World):∀(i:Nat) r,
 eD P (Instr.findAsking kt k es i)=some r->∃r',(Instr.findAsking kt k es' i).run P w=.ok r' w/\Ef β r r':=by
 induction he with
 |nil=>intro i r hr;simp only[Instr.findAsking]at hr;change some none=some r at hr;simp only[aD]at hr;subst hr;exact⟨none,rfl,.none⟩
 | @cons e e' l l' hk hf hb hv hl ih=>
   intro i r hr;simp only[Instr.findAsking,ig]at hr;cases hq:eD P (Op.equal kt k e.key)with
   |none=>rw[hq]at hr;cases hr
   |some b=>
    rw[hq]at hr;simp only[Instr.findAsking,hk,dG,yL hq w,dJ];cases b with
    |true=>
     change some (some (i,e.val))=some r at hr
     simp only[aD]at hr;subst hr;exact⟨_,rfl,.some i hv⟩
    |false=>exact ih (i+1) r hr
theorem QD{kt:TypeId}{k:Value}{es es':List MapEntry}(he:gp β es es')(w:World){r:Option (Nat×Value)}(hr:sU P kt k es=some r):
 ∃r',(Instr.findKey kt k es').run P w=.ok r' w/\Ef β r r':=by
 unfold sU Instr.findKey at hr;rw[ig]at hr;cases hu:P.underlying kt with
 |none=>
  have:eD P (underlying kt)=none:=by simp[underlying,program,eD,hu,bind,Sem.bind,stuck]
  rw[this]at hr;cases hr
 |some d=>
  have:eD P (underlying kt)=some d:=by simp[underlying,program,eD,hu,bind,Sem.bind];rfl
  rw[this]at hr;simp only[iX]at hr;obtain⟨n1,n2⟩:=Yw (β:=β) (kd:=d) (k:=k) he 0;simp only[Instr.findKey,dG,fJ hu,dJ];split at hr
  ·rename_i r1 hr1;change some r1=some r at hr
   simp only[aD]at hr;subst hr;obtain⟨r',h1,h2⟩:=n1 _ hr1;rw[h1];exact⟨r',rfl,h2⟩
  ·rename_i hr1;rw[n2 hr1];exact Yx he w 0 r hr
theorem QE{m m':Value}{es:List MapEntry}(hW:WR P β h w)(hm:VR β m m')(he:entriesOf m h=some es):
 (m=.map none/\m'=.map none/\es=[])\/∃i g es' clock clock',m=.map (some i)/\h.get i=some (.map es clock)/\β i=some g/\m'=.map (some g.b)/\w.heap[g.b]? =some (.map es' clock')/\clock'=clock/\gp β es es'.toList:=by
 unfold entriesOf at he;split at he
 ·simp only[aD]at he;subst he;left;cases hm;exact⟨rfl,rfl,rfl⟩
 ·rename_i i;split at he
  ·rename_i es1 clock hg;simp only[aD]at he;subst he;obtain⟨g,hb,rfl⟩:=hm.Cg;obtain⟨es',h1,h2⟩:=hW.obj i g _ hb hg;exact .inr ⟨i,g,es',clock,clock,rfl,hg,hb,rfl,h1,rfl,h2⟩
  ·cases he
 ·cases he
theorem gp.length{l l':List MapEntry}(he:gp β l l'):l'.length=l.length:=by
 induction he with
 |nil=>rfl
 |cons _ _ _ _ _ ih=>simp[ih]
theorem xy{b:Nat}{o:Obj}(h:w.heap[b]? =some o)(hn:∀c t f,o≠.cells c t f):(getObj b).run P w=.ok o w:=by
 simp only[getObj,Sem.run,h]
theorem K7{b:Nat}{o o0:Obj}(h:w.heap[b]? =some o0)(hn:∀c t f,o0≠.cells c t f):(setObj b o).run P w=.ok () {w with heap:=w.heap.setIfInBounds b o}:=by
 simp only[setObj,Sem.run,h]
def Eg(ok:Bool)(z:Value):Option (Nat×Value)->Value
 |some (_,v)=>if ok then .tuple #[v,.bool true]else v
 |none=>if ok then .tuple #[z,.bool false]else z
theorem Yy{t kt et:TypeId}(hu:P.underlying t=some (.map kt et)){m k:Value}{es:Array MapEntry}(hm:(m=.map none/\es= #[])\/∃b clock,m=.map (some b)/\w.heap[b]? =some (.map es clock))
 (hck:(Instr.checkKey es.isEmpty 10000 kt k).run P w=.ok () w) {r:Option (Nat×Value)} (hf:(Instr.findKey kt k es.toList).run P w=.ok r w) {z:Value} (hz:zeroOf P et=some z) {ok:Bool}:
 (Instr.lookup t m k ok).run P w=.ok (Eg ok z r) w:=by
 rcases hm with⟨rfl,rfl⟩|⟨b,clock,rfl,hb⟩
 ·simp only[Instr.lookup,dG,fJ hu,dJ,fw,hck,hf];cases r with
  |none=>simp[Cc hz,Eg]
  |some p=>simp[Eg]
 ·simp only[Instr.lookup,dG,fJ hu,dJ,fw,xy hb (by simp),hck,hf];cases r with
  |none=>simp[Cc hz,Eg]
  |some p=>simp[Eg]
section
variable {dst:Option Tmp} {type:TypeId} {pos:String} {after:Array Edge} {guard:Option (Nat×Bool)} {c:aF} {ρ ρ':Operand->Value} {v:Value} {h':IH}
theorem Yz{t:TypeId}{m k:Operand}{ok:Bool}(hc:cop P ⟨dst,.lookup t m k ok,type,pos,after,guard⟩=some c)(hr:c.run P ρ h=some (v,h'))(hm:VR β (ρ m) (ρ' m))(hk:VR β (ρ k) (ρ' k))(hW:WR P β h w):
 Good P β h w (execOp ρ' ⟨dst,.lookup t m k ok,type,pos,after,guard⟩) v h':=by
 simp only[cop]at hc;split at hc
 ·rename_i kt et hu;cases hz:zeroOf P et with
  |none=>simp[hz]at hc
  |some z=>
   simp only[hz,jT,aD]at hc;subst hc;obtain⟨_,_,_,Eh⟩:=Cb hz;simp only[aF.run]at hr;split at hr
   ·rename_i u hl;simp only[aD,di]at hr;obtain⟨rfl,rfl⟩:=hr;unfold zZ at hl;split at hl
    ·cases hl
    ·rename_i es hes;cases hck:rz P kt (ρ k)with
     |false=>rw[hck]at hl;cases hl
     |true=>
      rw[hck]at hl;simp only[cond_true]at hl;have hk':=hk.qb (K6 hck);cases hf:sU P kt (ρ k) es with
      |none=>rw[hf]at hl;cases hl
      |some r=>
       rw[hf]at hl;obtain⟨es',he1,he2⟩:∃es':Array MapEntry,((ρ' m=.map none/\es'= #[])\/∃b clock,ρ' m=.map (some b)/\w.heap[b]? =some (.map es' clock))/\gp β es es'.toList:=by
        rcases QE hW hm hes with⟨_,h2,h3⟩|⟨i,g,es',clock,clock',_,_,_,h4,h5,_,h6⟩
        ·subst h3;exact⟨#[],.inl ⟨h2,rfl⟩,.nil⟩
        ·exact⟨es',.inr ⟨_,_,h4,h5⟩,h6⟩
       obtain⟨r',f1,f2⟩:=QD he2 w hf;have hrun:=Yy (ok:=ok) hu he1 (K5 hck _ w) f1 hz;rw[<- hk']at hrun;cases f2 with
       |none=>
        simp only[aD]at hl;refine Good.same hW (xq hrun) ?_;subst hl;cases ok
        ·exact VR.free Eh
        ·exact .tuple (.cons (VR.free Eh) (.cons (.bool _) .nil))
       |some i hv=>
        simp only[aD]at hl;refine Good.same hW (xq hrun) ?_;subst hl;cases ok
        ·exact hv
        ·exact .tuple (.cons hv (.cons (.bool _) .nil))
   ·cases hr
 ·cases hc
end
end Go.Ideal
namespace Go.Ideal
variable {P:Program} {β:aG} {h:IH} {w:World}
theorem gp.get{l l':List MapEntry}(he:gp β l l'){i:Nat}{e:MapEntry}(hi:l[i]? =some e):∃e',l'[i]? =some e'/\e'.key=e.key/\cK e.key=true/\e'.born=e.born/\VR β e.val e'.val:=by
 induction he generalizing i with
 |nil=>simp at hi
 |cons hk hf hb hv hl ih=>
  cases i with
  |zero=>simp at hi;subst hi;exact⟨_,by simp,hk,hf,hb,hv⟩
  |succ i=>simp at hi;obtain⟨e',h1,h2⟩:=ih hi;exact⟨e',by simpa using h1,h2⟩
theorem gp.modify{l l':List MapEntry}(he:gp β l l'){f f':MapEntry->MapEntry}(i:Nat)
 (YA:∀e e',e'.key=e.key->cK e.key=true->e'.born=e.born->VR β e.val e'.val->(f' e').key=(f e).key/\cK (f e).key=true/\(f' e').born=(f e).born/\VR β (f e).val (f' e').val):
 gp β (l.modify i f) (l'.modify i f'):=by
 induction he generalizing i with
 |nil=>cases i<;>exact .nil
 |cons hk hf hb hv hl ih=>
  cases i with
  |zero=>obtain⟨a,b,c,d⟩:=YA _ _ hk hf hb hv;exact .cons a b c d hl
  |succ i=>exact .cons hk hf hb hv (ih i)
theorem gp.push{l l':List MapEntry}(he:gp β l l'){e e':MapEntry}(h1:e'.key=e.key)(h2:cK e.key=true)(h3:e'.born=e.born)(h4:VR β e.val e'.val):gp β (l++[e]) (l'++[e']):=by
 induction he with
 |nil=>exact .cons h1 h2 h3 h4 .nil
 |cons hk hf hb hv hl ih=>exact .cons hk hf hb hv ih
theorem Ei{b:Nat}{o:Obj}(hb:b<w.heap.size):let w1:World:={w with heap:=w.heap.setIfInBounds b o}
 w1.heap.size=w.heap.size/\(∀x,x≠b->w1.heap[x]? =w.heap[x]?)/\w1.heap[b]? =some o:=by
 refine⟨by simp,λx hx=>?_,?_⟩
 ·show(w.heap.setIfInBounds b o)[x]? =_;rw[Gb (by omega)]
 ·show(w.heap.setIfInBounds b o)[b]? =_;simp[hb]
section
variable {dst:Option Tmp} {type:TypeId} {pos:String} {after:Array Edge} {guard:Option (Nat×Bool)} {c:aF} {ρ ρ':Operand->Value} {v:Value} {h':IH}
theorem QF{t kt et:TypeId}(hu:P.underlying t=some (.map kt et)){b clock:Nat}{es:Array MapEntry}{k x:Value}(hb:w.heap[b]? =some (.map es clock))
 (hck:(Instr.checkKey false 10000 kt k).run P w=.ok () w) {r:Option (Nat×Value)} (hf:(Instr.findKey kt k es.toList).run P w=.ok r w)
 (hs:∀i v,r=some (i,v)->∃e,es[i]? =some e/\Instr.sameBits 10000 e.key k=true):
 (Instr.mapUpdate t (.map (some b)) k x).run P w=.ok () {w with heap:=w.heap.setIfInBounds b (match r with
   |some (i,_)=>.map (es.modify i λe=>{e with key:=k,val:=x}) clock
   |none=>.map (es.push {key:=k,val:=x,born:=clock}) (clock+1))}:=by
 simp only[Instr.mapUpdate,dG,fJ hu,dJ,xy hb (by simp),hck,hf];cases r with
 |none=>exact K7 hb (by simp)
 |some p=>
  obtain⟨i,v⟩:=p;obtain⟨e,h1,h2⟩:=hs i v rfl;simp only[h1,jT,wQ,Instr.keyThatStays,h2,if_true,dG,fw,dJ];exact K7 hb (by simp)
theorem QG{t kt et:TypeId}(hu:P.underlying t=some (.map kt et)){m m' k k' x x':Value}{h2:IH}(hr:DL P kt m k x h=some h2)(hm:VR β m m')(hk:VR β k k')(hx:VR β x x')(hW:WR P β h w):
 ∃w',(Instr.mapUpdate t m' k' x').run P w=.ok () w'/\WR P β h2 w'/\Eff β h w β h2 w':=by
 unfold DL at hr;split at hr
 ·rename_i i;split at hr
  ·rename_i es clock hg;obtain⟨g,hb,rfl⟩:=hm.Cg;obtain⟨es',o1,o2⟩:=hW.obj i g _ hb hg;cases hck:rz P kt k with
   |false=>rw[hck]at hr;cases hr
   |true=>
    rw[hck]at hr;simp only[cond_true]at hr;have hk':=hk.qb (K6 hck);subst hk';have hfree:=K6 hck;have hlt:g.b<w.heap.size:=by
     rcases rq g.b w.heap.size with hh|hh
     ·exact hh
     ·rw[uo hh]at o1;cases o1
    cases hf:sU P kt k' es with
    |none=>rw[hf]at hr;cases hr
    |some r=>
     rw[hf]at hr;obtain⟨r',f1,f2⟩:=QD o2 w hf;cases f2 with
     |none=>
      simp only[aD]at hr;subst hr;have hrun:=QF (x:=x') hu o1 (K5 hck false w) f1 (by simp);obtain⟨p1,p2,p3⟩:=Ei (w:=w) (o:=.map (es'.push {key:=k',val:=x',born:=clock}) (clock+1)) hlt;refine⟨_,hrun,hW.write hb hg _ p1 p2 rfl rfl rfl (bT _) ⟨_,p3,?_⟩⟩;rw[jK,Array.toList_push];exact o2.push rfl hfree rfl hx
     |some j hv=>
      simp only at hr;split at hr
      ·rename_i e he;rw[sZ]at he;obtain⟨e',q1,q2,q3,q4,q5⟩:=o2.get he;cases hs:Instr.sameBits 10000 e.key k' with
       |false=>rw[hs]at hr;cases hr
       |true=>
        rw[hs]at hr;simp only[cond_true,aD]at hr;subst hr;have hrun:=QF (x:=x') hu o1 (K5 hck false w) f1 (λi v QH=>by
         simp only[aD,di]at QH;obtain⟨rfl,_⟩:=QH;exact⟨e',by simpa using q1,by rw[q2];exact hs⟩)
        obtain⟨p1,p2,p3⟩:=Ei (w:=w) (o:=.map (es'.modify j λe=>{e with key:=k',val:=x'}) clock) hlt;refine⟨_,hrun,hW.write hb hg _ p1 p2 rfl rfl rfl (bT _) ⟨_,p3,?_⟩⟩;rw[Qn,Array.toList_modify];exact o2.modify j λe e' a b c d=>⟨rfl,hfree,c,hx⟩
      ·cases hr
  ·cases hr
 ·cases hr
theorem YB{t:TypeId}{m k x:Operand}(hc:cop P ⟨dst,.mapUpdate t m k x,type,pos,after,guard⟩=some c)(hr:c.run P ρ h=some (v,h'))(hm:VR β (ρ m) (ρ' m))(hk:VR β (ρ k) (ρ' k))(hx:VR β (ρ x) (ρ' x))(hW:WR P β h w):
 Good P β h w (execOp ρ' ⟨dst,.mapUpdate t m k x,type,pos,after,guard⟩) v h':=by
 simp only[cop]at hc;split at hc
 ·rename_i kt et hu;cases hc;simp only[aF.run]at hr;split at hr
  ·rename_i h2 hh;simp only[aD,di]at hr;obtain⟨rfl,rfl⟩:=hr;obtain⟨w',r1,r2,r3⟩:=QG hu hh hm hk hx hW;exact⟨.skip,w',β,undef,Qu r1,.inr ⟨rfl,rfl⟩,.dU _,r2,r3⟩
  ·cases hr
 ·cases hc
theorem YC{t:TypeId}{m k x:Operand}(hc:cop P ⟨dst,.insert t m k x,type,pos,after,guard⟩=some c)(hr:c.run P ρ h=some (v,h'))(hm:VR β (ρ m) (ρ' m))(hk:VR β (ρ k) (ρ' k))(hx:VR β (ρ x) (ρ' x))(hW:WR P β h w):
 Good P β h w (execOp ρ' ⟨dst,.insert t m k x,type,pos,after,guard⟩) v h':=by
 simp only[cop]at hc;split at hc
 ·rename_i kt et hu;cases hc;simp only[aF.run]at hr;split at hr
  ·rename_i h2 hh;simp only[aD,di]at hr;obtain⟨rfl,rfl⟩:=hr;obtain⟨w',r1,r2,r3⟩:=QG hu hh hm hk hx hW;exact⟨.skip,w',β,undef,Qu r1,.inr ⟨rfl,rfl⟩,.dU _,r2,r3⟩
  ·cases hr
 ·cases hc
theorem K8(hW:WR P β h w){s:Sem Next}{ob:dN}{o':Obj}(hr:s.run P w=.ok (.value (.pointer (some ⟨w.heap.size,0,none⟩))) {w with heap:=w.heap.push o'})
 (ho:∀β':aG,β.le β'->OR P β' ⟨w.heap.size,0,0,0,0⟩ {w with heap:=w.heap.push o'} ob):Good P β h w s (.pointer (some ⟨h.next,0,none⟩)) (h.new ob):=by
 refine uI.good (f:=λi=>.pointer (some ⟨i,0,none⟩)) hW ⟨_,o',⟨w.heap.size,0,0,0,0⟩,hr,rfl,λi β' hle hi=>⟨?_,ho β' hle⟩⟩;have:=VR.ptr (β:=β') (o:=0) hi;exact this
theorem YD{t:TypeId}{x:Operand}(hc:cop P ⟨dst,.range t x,type,pos,after,guard⟩=some c)(hr:c.run P ρ h=some (v,h'))(hx:VR β (ρ x) (ρ' x))(hW:WR P β h w):
 Good P β h w (execOp ρ' ⟨dst,.range t x,type,pos,after,guard⟩) v h':=by
 simp only[cop]at hc;split at hc
 ·rename_i hu;cases hc;simp only[aF.run]at hr;split at hr
  ·rename_i s hs;simp only[aD,di]at hr;obtain⟨rfl,rfl⟩:=hr;rw[hs]at hx;have hx':=hx.Ai;refine K8 hW (o':=.stringIter s 0) ?_ λβ' _=>⟨by simp,rfl⟩
   simp[execOp,Instr.range,fJ hu,hx']
  ·cases hr
 ·rename_i kt et hu;cases hc;simp only[aF.run]at hr;split at hr
  ·rename_i hs;simp only[aD,di]at hr;obtain⟨rfl,rfl⟩:=hr;rw[hs]at hx;have hx':ρ' x=.map none:=by generalize ρ' x=y at hx;cases hx;rfl
   refine K8 hW (o':=.mapIter none 0 #[] 0) ?_ λβ' _=>⟨none, #[],by simp,rfl,.xk,rfl⟩
   simp[execOp,Instr.range,fJ hu,hx']
  ·rename_i m hs;split at hr
   ·rename_i es clock hg;simp only[aD,di]at hr;obtain⟨rfl,rfl⟩:=hr;rw[hs]at hx;obtain⟨g,hb,hx'⟩:=hx.Cg;obtain⟨es',o1,o2⟩:=hW.obj m g _ hb hg;refine K8 hW (o':=.mapIter (some g.b) clock #[] clock) ?_ λβ' hle=>⟨some g.b, #[],by simp,rfl,.map (hle _ _ hb),rfl⟩
    simp only[execOp,Instr.range,dG,fJ hu,dJ,hx',xy o1 (by simp),fw,run_newObj]
   ·cases hr
  ·cases hr
 ·cases hc
theorem find_born{l l':List MapEntry}(he:gp β l l')(n:Nat):match l.find? (λe=>Nat.beq e.born n)with
 |none=>l'.find? (λe=>e.born==n)=none
 |some e=>∃e',l'.find? (λe=>e.born==n)=some e'/\e'.key=e.key/\cK e.key=true/\VR β e.val e'.val:=by
 induction he with
 |nil=>rfl
 | @cons e e' l l' hk hf hb hv hl ih=>
   simp only[List.find?_cons,hb];cases hq:Nat.beq e.born n with
   |true=>
    have:(e.born==n)=true:=by simp[qo hq]
    simp only[this];exact⟨e',rfl,hk,hf,hv⟩
   |false=>
    have:(e.born==n)=false:=by simp[Dw hq]
    simp only[this];exact ih
theorem YE{x:Operand}(hc:cop P ⟨dst,.entry x,type,pos,after,guard⟩=some c)(hr:c.run P ρ h=some (v,h'))(hx:VR β (ρ x) (ρ' x))(hW:WR P β h w):
 Good P β h w (execOp ρ' ⟨dst,.entry x,type,pos,after,guard⟩) v h':=by
 simp only[cop,aD]at hc;subst hc;simp only[aF.run]at hr;split at hr
 ·rename_i r hs;split at hr
  ·rename_i m since seen stepped hg;split at hr
   ·rename_i es clock hgm;split at hr
    ·rename_i stamp hst;cases hbq:Nat.beq clock stepped with
     |false=>rw[hbq]at hr;cases hr
     |true=>
      rw[hbq]at hr;simp only[cond_true]at hr;split at hr
      ·rename_i e he;simp only[aD,di]at hr;obtain⟨rfl,rfl⟩:=hr;rw[hs]at hx;obtain⟨g,hb,hx'⟩:=hx.uJ;obtain⟨m',seen',o1,o2,o3,o4⟩:=hW.obj r g _ hb hg;rw[o4]at hx';obtain⟨gm,K9,hm'⟩:∃gm,β m=some gm/\m'=some gm.b:=by
        obtain⟨gm,a,b⟩:=o3.Cg;exact⟨gm,a,by simpa using b⟩
       subst hm';obtain⟨es',p1,p2⟩:=hW.obj m gm _ K9 hgm;have QI:=find_born p2 stamp;rw[he]at QI;obtain⟨e',q1,q2,q3,q4⟩:=QI;have hback:seen'.back? =some stamp:=by
        rw[<- Array.getLast?_toList,o2];exact hst
       have hcl:(clock !=stepped)=false:=by simp[qo hbq]
       have hfa:es'.find? (λe=>e.born==stamp)=some e':=by rw[<- Array.find?_toList];exact q1
       refine Good.same hW (v':=.tuple #[e'.key,e'.val]) ?_ (.tuple (.cons ?_ (.cons q4 .nil)))
       ·simp only[execOp,Instr.entry,zM,dG,hx',xy o1 (by simp),xy p1 (by simp),dJ,hback,hcl,hfa,fw,vJ,if_false]
       ·rw[q2];exact VR.free q3
      ·cases hr
    ·cases hr
   ·cases hr
  ·cases hr
 ·cases hr
theorem YF{x:Operand}{xt t:TypeId}{ok:Bool}(hc:cop P ⟨dst,.typeAssert x xt t ok,type,pos,after,guard⟩=some c)(hr:c.run P ρ h=some (v,h'))(hx:VR β (ρ x) (ρ' x))(hW:WR P β h w):
 Good P β h w (execOp ρ' ⟨dst,.typeAssert x xt t ok,type,pos,after,guard⟩) v h':=by
 simp only[cop]at hc;split at hc
 ·cases hc
 ·rename_i d hni hu;cases hz:zeroOf P t with
  |none=>simp[hz]at hc
  |some z=>
   simp only[hz,jT,aD]at hc;subst hc;obtain⟨_,_,_,Eh⟩:=Cb hz;simp only[aF.run]at hr;split at hr
   ·rename_i hs;rw[hs]at hx;have hx':ρ' x=.nilIface:=by generalize ρ' x=y at hx;cases hx;rfl
    cases ok with
    |false=>cases hr
    |true=>
     simp only[cond_true,aD,di]at hr;obtain⟨rfl,rfl⟩:=hr;refine Good.same hW (v':=.tuple #[z,.bool false]) ?_ (.tuple (.cons (VR.free Eh) (.cons (.bool _) .nil)));simp only[execOp,Instr.typeAssert,dG,fJ hu,dJ,hx',if_true,Cc hz,fw]
   ·rename_i u y hs;rw[hs]at hx;obtain⟨y',hy,hx'⟩:=hx.Aj;cases hbq:Nat.beq u t with
    |true=>
     have hut:u=t:=qo hbq;rw[hbq]at hr;simp only[cond_true,aD,di]at hr;obtain⟨rfl,rfl⟩:=hr;refine Good.same hW (v':=if ok then .tuple #[y',.bool true]else y') ?_ ?_
     ·simp only[execOp,Instr.typeAssert,dG,fJ hu,dJ,hx',hut];cases d<;>first|exact absurd rfl (hni _)|simp
     ·cases ok
      ·exact hy
      ·exact .tuple (.cons hy (.cons (.bool _) .nil))
    |false=>
     have hut:u≠t:=Dw hbq;rw[hbq]at hr;cases ok with
     |false=>cases hr
     |true=>
      simp only[cond_true,cond_false,aD,di]at hr;obtain⟨rfl,rfl⟩:=hr;refine Good.same hW (v':=.tuple #[z,.bool false]) ?_ (.tuple (.cons (VR.free Eh) (.cons (.bool _) .nil)));simp only[execOp,Instr.typeAssert,dG,fJ hu,dJ,hx'];cases d<;>first|exact absurd rfl (hni _)|simp[hut,Cc hz]
   ·cases hr
 ·cases hc
end
