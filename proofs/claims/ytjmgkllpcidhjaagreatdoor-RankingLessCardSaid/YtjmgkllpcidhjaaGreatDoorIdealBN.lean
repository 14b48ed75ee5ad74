/-
  The ideal machine, 7: the operations, one by one.
-/
import Derived.Test.YtjmgkllpcidhjaaGreatDoorIdealAN
import Derived.IntWalk
import Derived.Laws.Append
set_option linter.all false
namespace Go.Ideal
variable {P:Program} {β:az} {h:IH} {w:World}
theorem VR.BS{b:Bool}{v:Value}(h:VR β (.bool b) v):v=.bool b:=by cases h;rfl
theorem VR.ko{k:IntKind}{n:Int}{v:Value}(h:VR β (.int k n) v):v=.int k n:=by cases h;rfl
theorem VR.vY{s:ByteArray}{v:Value}(h:VR β (.string s) v):v=.string s:=by cases h;rfl
theorem VR.rz{i o:Nat}{v:Value}(h:VR β (.pointer (some ⟨i,o,none⟩)) v):∃g,β i=some g/\v=.pointer (some ⟨g.b,g.off+o,none⟩):=by
 cases h with|ptr hi=>exact⟨_,hi,rfl⟩
theorem VR.zK{i:Nat}{v:Value}(h:VR β (.map (some i)) v):∃g,β i=some g/\v=.map (some g.b):=by
 cases h with|map hi=>exact⟨_,hi,rfl⟩
theorem VR.xQ{t:TypeId}{u v:Value}(h:VR β (.iface t u) v):∃u',VR β u u'/\v=.iface t u':=by
 cases h with|iface t hi=>exact⟨_,hi,rfl⟩
theorem VR.IY{l:List Value}{v:Value}(h:VR β (.agg ⟨l⟩) v):∃l',aJ β l l'/\l.all Ideal.cellV=true/\v=.agg ⟨l'⟩:=by
 cases h with|agg hc hl=>exact⟨_,hl,hc,rfl⟩
theorem VR.vZ{fn:Fn}{f c:List Value}{v:Value}(h:VR β (.func fn ⟨f⟩ ⟨c⟩) v):∃fn' f' c',FR β fn fn'/\aJ β f f'/\aJ β c c'/\v=.func fn' ⟨f'⟩ ⟨c'⟩:=by
 cases h with|func h1 h2 h3=>exact⟨_,_,_,h1,h2,h3,rfl⟩
theorem VR.lm{i o:Nat}{f:Option Nat}{n c:Nat}{v:Value}(h:VR β (.slice (some ⟨i,o,f⟩) n c) v):
 ∃g a c',β i=some g/\v=.slice (some a) n c'/\a.block=g.b/\True/\n<=c/\c<=c'/\(c'=0\/(a.off=g.off+o/\a.spot=none))/\
  ((f=some 0/\c'=c)\/(f=some g.sz/\0<g.sz/\o+c*g.sz=g.len/\(g.off+o+c'*g.sz=g.top/\a.spot=none))):=by
 cases h with
 |aI hi hb hn ha=>exact⟨_,_,_,hi,rfl,hb,trivial,hn,aH _,ha,.inl ⟨rfl,rfl⟩⟩
 |lV hi hb hs hn hz hl ht hc ha=>exact⟨_,_,_,hi,rfl,hb,trivial,hn,hc,ha.imp id (λe=>⟨e,hs⟩),.inr ⟨rfl,hz,hl,ht,hs⟩⟩
theorem aJ.of_map{γ:Type}{f f':γ->Value}{l:List γ}(h:∀x∈l,VR β (f x) (f' x)):aJ β (jB f l) (l.map f'):=by
 rw[q9];exact aJ.map l h
theorem Wn(ρ:Operand->Value)(zero:List Value):pK ρ zero []=some zero:=rfl
theorem IZ(ρ:Operand->Value)(zero:List Value)(off size:Nat)(x:Operand)(ps:List (Nat×Nat×Operand)):
 pK ρ zero ((off,size,x)::ps)=match cellsOf (ρ x)with
  |none=>none
  |some vs=>if gB vs=size then(match fU zero off vs with
   |some cs=>pK ρ cs ps
   |none=>none)else none:=by
 show(match cellsOf (ρ x)with
  |none=>none
  |some vs=>cond (Nat.beq (gB vs) size) (match fU zero off vs with
   |some cs=>pK ρ cs ps
   |none=>none) none)=_
 cases cellsOf (ρ x)with
 |none=>rfl
 |some vs=>
  show cond (Nat.beq (gB vs) size) _ none=if gB vs=size then _ else none
  cases hb:Nat.beq (gB vs) size with
  |true=>rw[if_pos (nU hb)];rfl
  |false=>rw[if_neg (Bh hb)];rfl
theorem foldl_set(off:Nat):∀(l:List Value) (k:Nat) (A:Array Value),
 ((l.zipIdx k).foldl (λcs (x:Value×Nat)=>cs.setIfInBounds (off+x.2) x.1) A).size=A.size/\
 ∀j,((l.zipIdx k).foldl (λcs (x:Value×Nat)=>cs.setIfInBounds (off+x.2) x.1) A)[j]? =if off+k<=j/\j<off+k+l.length/\j<A.size then l[j - (off+k)]? else A[j]?:=by
 intro l;induction l with
 |nil=>intro k A;refine⟨rfl,λj=>?_⟩;rw[if_neg (by simp;omega)];rfl
 |cons x l ih=>
  intro k A;simp only[List.zipIdx_cons,Ih];obtain⟨h1,h2⟩:=ih (k+1) (A.setIfInBounds (off+k) x);refine⟨by rw[h1];simp,λj=>?_⟩;rw[h2];simp only[Array.size_setIfInBounds,qh];by_cases hc:off+(k+1)<=j/\j<off+(k+1)+l.length/\j<A.size
  ·rw[if_pos hc,if_pos (by omega)];rw[show j - (off+k)=(j - (off+(k+1)))+1 by omega,oW]
  ·rw[if_neg hc];by_cases hj:j=off+k
   ·subst hj;by_cases hs:off+k<A.size
    ·rw[if_pos (by omega)];simp[hs]
    ·rw[if_neg (by omega),o8 (by simp;omega),o8 (by omega)]
   ·rw[if_neg (by omega)];rw[Ew (by omega)]
inductive F2{γ δ:Type}(R:γ->δ->Prop):List γ->List δ->Prop
 |nil:F2 R [] []
 |cons {a:γ} {b:δ} {l:List γ} {r:List δ} (h:R a b) (hl:F2 R l r):F2 R (a::l) (b::r)
theorem I1{place:Nat->Option (Nat×Nat)}{ρ ρ':Operand->Value}:∀(parts:List (Nat×Operand)) (pc:List (Nat×Nat×Operand)) (zs zs' cs:List Value),
 F2 (λ(p:Nat×Operand) (q:Nat×Nat×Operand)=>q.2.2=p.2/\place p.1=some (q.1,q.2.1)) parts pc->aJ β zs zs'->zs.all Ideal.cellV=true->
 pK ρ zs pc=some cs->(∀p∈parts,VR β (ρ p.2) (ρ' p.2))->∃cs',Instr.fill place ⟨zs'⟩ (parts.map λp=>(p.1,ρ' p.2))=some ⟨cs'⟩/\aJ β cs cs'/\cs.all Ideal.cellV=true/\cs.length=zs.length:=by
 intro parts;induction parts with
 |nil=>
  intro pc zs zs' cs hf hz hc hr _;cases hf;rw[Wn]at hr;cases hr;exact⟨zs',rfl,hz,hc,rfl⟩
 |cons p parts ih=>
  intro pc zs zs' cs hf hz hc hr hρ;obtain⟨i,x⟩:=p;cases hf with
  | @cons _ q _ pc hq hf=>
    obtain⟨off,size,y⟩:=q;obtain⟨hy,hpl⟩:=hq;simp only at hy hpl;subst hy;rw[IZ]at hr;split at hr
    ·cases hr
    ·rename_i vs hvs;split at hr
     ·rename_i hsz;split at hr
      ·rename_i cs1 hl;obtain⟨Om,vs',hv1,hv2⟩:=(hρ (i,y) (by simp)).cells hvs;obtain⟨l1,l2,l3⟩:=BN hl;rw[rf]at hsz;have hlen:=hv2.length;have hzl:=hz.length;have ES:=foldl_set off vs' 0 ⟨zs'⟩
       -- the array behind the part
       have hA:∃BU,((vs'.zipIdx 0).foldl (λcs (x:Value×Nat)=>cs.setIfInBounds (off+x.2) x.1) (⟨zs'⟩:Array Value))=⟨BU⟩/\aJ β cs1 BU:=by
        refine⟨_,rfl,aJ.IU ?_ ?_⟩
        ·have:=ES.1;simp only[Array.size]at this;rw[this,hzl,l2]
        ·intro j v hj;have hg:=ES.2 j;simp only[nV]at hg;rw[l3]at hj;have hjl:j<zs'.length:=by
          rw[hzl,<- l2];rcases oZ j cs1.length with hh|hh
          ·exact hh
          ·have:=l3 j;rw[ig hh]at this;rw[<- this]at hj;cases hj
         split at hj
         ·rename_i hr2;obtain⟨v',h1,h2⟩:=hv2.get hj;refine⟨v',?_,h2⟩;rw[<- uk]at hg;rw[hg,if_pos (by simp;omega)];exact h1
         ·rename_i hr2;obtain⟨v',h1,h2⟩:=hz.get hj;refine⟨v',?_,h2⟩;rw[<- uk]at hg;rw[hg,if_neg (by simp;omega)];simpa using h1
       obtain⟨BU,hA1,hA2⟩:=hA;have hc1:cs1.all Ideal.cellV=true:=by
        rw[iB]at hc Om⊢;intro z Wo;obtain⟨j,hj⟩:=qU Wo;rw[l3]at hj;split at hj
        ·exact Om z (cZ hj)
        ·exact hc z (cZ hj)
       obtain⟨cs',r1,r2,r3,r4⟩:=ih pc cs1 BU cs hf hA2 hc1 hr λp hp=>hρ p (by simp[hp]);refine⟨cs',?_,r2,r3,by omega⟩;simp only[mJ,Instr.fill,hpl];rw[if_neg (by simp only[hv1,Array.size,y8,Bi,not_or];omega)];have hz0:(ρ' y).cells.zipIdx=(⟨vs'.zipIdx 0⟩:Array (Value×Nat)):=by rw[hv1];simp
       rw[hz0];have hfl:Array.foldl (λcs (x:Value×Nat)=>match x with|(c,j)=>cs.setIfInBounds (off+j) c) (⟨zs'⟩:Array Value) (⟨vs'.zipIdx 0⟩:Array (Value×Nat))=⟨BU⟩:=by
        rw[<- hA1,<- NG]
       rw[hfl];exact r1
      ·cases hr
     ·cases hr
end Go.Ideal
namespace Go.Ideal
variable {P:Program} {β:az} {h:IH} {w:World}
theorem uF{s:Sem Value}{v:Value}{w w':World}(h:s.run P w=.ok v w'):(do pure (.value (<- s)):Sem Next).run P w=.ok (.value v) w':=by simp[h]
theorem Oo{s:Sem Unit}{w w':World}(h:s.run P w=.ok () w'):(do s;pure .skip:Sem Next).run P w=.ok .skip w':=by simp[h]
theorem Oq{s:Sem Next}{cs cs':List Value}{t:TypeId}(hcs:aJ β cs cs')(hc:cs.all cellV=true)
 (hr:s.run P w=.ok (.value (.pointer (some ⟨w.heap.size,0,none⟩))) {w with heap:=w.heap.push (.cells ⟨cs'⟩ t)}):
 ry P β w s (λi=>.pointer (some ⟨i,0,none⟩)) (.cells cs):=by
 refine⟨_,_,⟨w.heap.size,0,cs.length,cs.length+0,0⟩,hr,rfl,λi β' hle hi=>⟨?_,?_⟩⟩
 ·have:=VR.ptr (β:=β') (o:=0) hi;exact this
 ·have:=OR.ER (P:=P) (w:=w) t (hcs.mono hle) hc [] 0;simpa using this
theorem Ot{s:Sem Next}{cs cs':List Value}{t:TypeId}{n c:Nat}(hn:n<=c)(hcs:aJ β cs cs')(hc:cs.all cellV=true)
 (hr:s.run P w=.ok (.value (.slice (some ⟨w.heap.size,0,none⟩) n c)) {w with heap:=w.heap.push (.cells ⟨cs'⟩ t)}):
 ry P β w s (λi=>.slice (uu i 0) n c) (.cells cs):=by
 refine⟨_,_,⟨w.heap.size,0,cs.length,cs.length+0,0⟩,hr,rfl,λi β' hle hi=>⟨?_,?_⟩⟩
 ·exact VR.aI hi rfl hn (.inr ⟨rfl,rfl⟩)
 ·have:=OR.ER (P:=P) (w:=w) t (hcs.mono hle) hc [] 0;simpa using this
theorem wh{t:TypeId}{cs:List Value}(h:sK P t=some cs):
 ∃z i,P.info? t=some i/\i.zero=some z/\z.cells=⟨cs⟩/\gD cs=true/\iw P t=some cs.length:=by
 unfold sK at h;split at h
 ·rename_i z n hz hn;split at h
  ·rename_i hh;cases h;obtain⟨i,h1,h2,h3⟩:=zG hz;exact⟨z,i,h1,h2,rfl,hh.2,by rw[hh.1];exact hn⟩
  ·cases h
 ·cases h
theorem Ou(f:Nat->Value):Array.map f (Array.range 0)= #[]:=VY (by simp)
theorem Wp{e:TypeId}{dst:Option Tmp}{type:TypeId}{pos:String}{after:Array Edge}{guard:Option (Nat×Bool)}{c:ak}{ρ ρ':Operand->Value}{f:Nat->Value}{ob:bB}
 (hc:cop P ⟨dst,.alloc e,type,pos,after,guard⟩=some c) (ha:c.alloc ρ=some (f,ob)):ry P β w (execOp ρ' ⟨dst,.alloc e,type,pos,after,guard⟩) f ob:=by
 simp only[cop]at hc;split at hc
 ·rename_i cs hz;cases hc;simp only[ak.alloc]at ha;cases ha;obtain⟨z,i,h1,h2,h3,h4,_⟩:=wh hz;refine Oq (t:=e) (aJ.free h4) (rq h4) ?_;simp[execOp,Instr.alloc,zeroValue,typeInfo,h1,h2,newVar,newRow,h3]
 ·cases hc
theorem Wq{e:TypeId}{x:Operand}{dst:Option Tmp}{type:TypeId}{pos:String}{after:Array Edge}{guard:Option (Nat×Bool)}{c:ak}{ρ ρ':Operand->Value}{f:Nat->Value}{ob:bB}
 (hc:cop P ⟨dst,.box e x,type,pos,after,guard⟩=some c) (ha:c.alloc ρ=some (f,ob)) (hx:VR β (ρ x) (ρ' x)):ry P β w (execOp ρ' ⟨dst,.box e x,type,pos,after,guard⟩) f ob:=by
 simp only[cop,aA]at hc;subst hc;simp only[ak.alloc]at ha;split at ha
 ·rename_i cs hcs;cases ha;obtain⟨h1,cs',h2,h3⟩:=hx.cells hcs;refine Oq (t:=e) h3 h1 ?_;simp[execOp,Instr.box,newVar,newRow,h2]
 ·cases ha
theorem Ws{t:TypeId}{r:Option Operand}{dst:Option Tmp}{type:TypeId}{pos:String}{after:Array Edge}{guard:Option (Nat×Bool)}{c:ak}{ρ ρ':Operand->Value}{f:Nat->Value}{ob:bB}
 (hc:cop P ⟨dst,.makeMap t r,type,pos,after,guard⟩=some c) (ha:c.alloc ρ=some (f,ob)):ry P β w (execOp ρ' ⟨dst,.makeMap t r,type,pos,after,guard⟩) f ob:=by
 cases r with
 |some r=>simp[cop]at hc
 |none=>
  simp only[cop,aA]at hc;subst hc;simp only[ak.alloc]at ha;cases ha;refine⟨.map (some w.heap.size),.map #[] 0,⟨w.heap.size,0,0,0,0⟩,?_,rfl,λi β' hle hi=>⟨?_,?_⟩⟩
  ·simp[execOp,Instr.makeMap]
  ·have:=VR.map (β:=β') hi;exact this
  ·exact⟨#[],by simp,.nil⟩
theorem Wt(z:List Value)(n:Nat)(hz:z≠[]):∀j,(zeros z n)[j]? =if j<n*z.length then z[j%z.length]? else none:=by
 induction n with
 |zero=>intro j;show([]:List Value)[j]? =_;simp
 |succ n ih=>
  intro j;have hpos:0<z.length:=o9.2 hz;show(je z (zeros z n))[j]? =_;rw[gV];by_cases hj:j<z.length
  ·rw[kD hj,if_pos (by rw[Nat.succ_mul];omega),Nat.mod_eq_of_lt hj]
  ·rw[pq (by omega),ih];have:(j - z.length)%z.length=j%z.length:=by
    rw[<- Nat.mod_eq_sub_mod (by omega)]
   rw[this];by_cases hl:j<(n+1)*z.length
   ·rw[if_pos hl,if_pos (by rw[Nat.succ_mul]at hl;omega)]
   ·rw[if_neg hl,if_neg (by rw[Nat.succ_mul]at hl;omega)]
theorem wm{z:List Value}(hz:gD z=true)(n:Nat):gD (zeros z n)=true:=by
 have happ:∀(a b:List Value),gD a=true->gD b=true->gD (a++b)=true:=by
  intro a b ha hb;induction a with
  |nil=>exact hb
  |cons x a ih=>simp[gD]at ha⊢;exact⟨ha.1,ih ha.2⟩
 induction n with
 |zero=>rfl
 |succ n ih=>show gD (je z (zeros z n))=true;rw[gV];exact happ _ _ hz ih
theorem ET(z:List Value)(n:Nat)(hz:z≠[]):(Array.range (n*z.length)).map (λj=>(⟨z⟩:Array Value)[j%(⟨z⟩:Array Value).size]!)=⟨zeros z n⟩:=by
 have hpos:0<z.length:=o9.2 hz;apply Array.ext';apply jA;intro j;show _=(zeros z n)[j]?;rw[Wt z n hz];simp only[Ii,Array.toList_range,bX];by_cases hj:j<n*z.length
 ·rw[if_pos hj,Bj hj];have hm:j%z.length<z.length:=ul _ hpos;simp[hm]
 ·rw[if_neg hj,ig (by simp;omega)];rfl
theorem qz{t:TypeId}{n:Nat}(h:kJ P t=some n):iw P t=some n/\0<n:=by
 unfold kJ at h;split at h
 ·cases h
 ·rename_i h2;refine⟨h,?_⟩;rcases y9 n with h0|h0
  ·subst h0;exact absurd h h2
  ·exact h0
theorem Wu{t:TypeId}{l k:Operand}{dst:Option Tmp}{type:TypeId}{pos:String}{after:Array Edge}{guard:Option (Nat×Bool)}{c:ak}{ρ ρ':Operand->Value}{f:Nat->Value}{ob:bB}
 (hc:cop P ⟨dst,.makeSlice t l k,type,pos,after,guard⟩=some c) (ha:c.alloc ρ=some (f,ob)) (hl:VR β (ρ l) (ρ' l)) (hk:VR β (ρ k) (ρ' k)):
 ry P β w (execOp ρ' ⟨dst,.makeSlice t l k,type,pos,after,guard⟩) f ob:=by
 simp only[cop]at hc;split at hc
 ·rename_i e hu;split at hc
  ·rename_i s z hs hz;cases hc;simp only[ak.alloc]at ha;obtain⟨zv,i,h1,h2,h3,h4,h5⟩:=wh hz;obtain⟨hs1,hs2⟩:=qz hs;rw[h5]at hs1;have hzl:z.length=s:=by simpa using hs1
   split at ha
   ·rename_i ln cn hln hcn;rw[hln]at hl;rw[hcn]at hk;have hl':=hl.ko;have hk':=hk.ko;simp only[h1,iT,Option.get!_some]at ha;cases hcond:(ln.ble cn&&(cn.mul i.bytes).ble small&&(cn.mul s).ble small&&cn.ble small)with
    |false=>rw[hcond]at ha;cases ha
    |true=>
     rw[hcond]at ha;simp only[cond_true,aA,bM]at ha;obtain⟨rfl,rfl⟩:=ha;simp only[eG]at hcond;obtain⟨⟨⟨c1,c2⟩,c3⟩,c4⟩:=hcond;have c1:=jY c1;have c2:=jY c2;have c4:=jY c4;unfold small at c2 c4;have hwl:IntKind.i64.wrap (Int.ofNat ln)=ln:=by
      exact IntWalk.i64_in _ (by simp;omega)
     have hwc:IntKind.i64.wrap (Int.ofNat cn)=cn:=by
      exact IntWalk.i64_in _ (by simp;omega)
     refine Ot (t:=e) c1 (aJ.free (wm h4 cn)) (rq (wm h4 cn)) ?_;have BV:z≠[]:=λe=>by subst e;simp at hzl;omega
     have hbig:¬((i.bytes:Int)*(cn:Int)>281474976710656):=by
      rw[<- Int.natCast_mul,xn];have c2':cn*i.bytes<=1073741824:=c2;omega
     have hsz:((cn:Int)).toNat=cn:=by simp
     have hsz2:((ln:Int)).toNat=ln:=by simp
     have hzs:(⟨z⟩:Array Value).size=s:=hzl;simp only[execOp,Instr.makeSlice,bP,dL hu,bR,hl',hk',asInt,asIntOf,dB,BQ h1,hwl,hwc,Int.reducePow];rw[if_neg (by simp only[y8,Bi,not_or];omega)];simp only[hsz,hsz2,bP,run_askRoom,bR,kg h5,hzl];by_cases h0:cn*s=0
     ·rw[if_pos h0];have Wv:cn=0:=by
       rcases Nat.mul_eq_zero.1 h0 with hh|hh
       ·exact hh
       ·omega
      subst Wv;have hz0:zeros z 0=[]:=rfl;simp[newRow,hz0,Ou]
     ·rw[if_neg h0];have hzz:zeroOf P e=some zv:=by
       unfold sK at hz;split at hz
       ·rename_i z' n' hz' _;obtain⟨i',j1,j2,_⟩:=zG hz';rw[h1]at j1;cases j1;rw[h2]at j2;cases j2;exact hz'
       ·cases hz
      have hrow:=ET z cn BV;rw[hzl]at hrow;simp only[bP,zH hzz,bR,h3,dB,newRow,run_newObj,hrow]
   ·cases ha
  ·cases hc
 ·cases hc
theorem F2.of_map{γ δ:Type}{R:γ->δ->Prop}(f:γ->δ)(l:List γ)(h:∀x∈l,R x (f x)):F2 R l (l.map f):=by
 induction l with
 |nil=>exact .nil
 |cons x l ih=>exact .cons (h x (by simp)) (ih λy hy=>h y (by simp[hy]))
section
variable {dst:Option Tmp} {type:TypeId} {pos:String} {after:Array Edge} {guard:Option (Nat×Bool)} {c:ak} {ρ ρ':Operand->Value} {f:Nat->Value} {ob:bB} {v:Value} {h':IH}
theorem Ww{t:TypeId}{len:Nat}{parts:Array (Nat×Operand)}
 (hc:cop P ⟨dst,.buildSlice t len parts,type,pos,after,guard⟩=some c) (ha:c.alloc ρ=some (f,ob)) (hρ:∀p∈parts.toList,VR β (ρ p.2) (ρ' p.2)):
 ry P β w (execOp ρ' ⟨dst,.buildSlice t len parts,type,pos,after,guard⟩) f ob:=by
 simp only[cop]at hc;split at hc
 ·rename_i e hu;split at hc
  ·rename_i s z hs hz;split at hc
   ·rename_i hle;cases hc;simp only[ak.alloc]at ha;split at ha
    ·rename_i cs hcs;cases ha;obtain⟨zv,i,h1,h2,h3,h4,h5⟩:=wh hz;obtain⟨hs1,hs2⟩:=qz hs;rw[h5]at hs1;have hzl:z.length=s:=by simpa using hs1
     have BV:z≠[]:=λe=>by subst e;simp at hzl;omega
     obtain⟨cs',r1,r2,r3,_⟩:=I1 (β:=β) (place:=λi=>some (i*s,s)) (ρ:=ρ) (ρ':=ρ') parts.toList _ (zeros z len) (zeros z len) cs
      (F2.of_map (λp=>(p.1*s,s,p.2)) _ λp _=>⟨rfl,rfl⟩) (aJ.free (wm h4 len)) (rq (wm h4 len)) hcs hρ
     refine Ot (t:=e) (aH _) r2 r3 ?_;have hzz:zeroOf P e=some zv:=by
      unfold sK at hz;split at hz
      ·rename_i z' n' hz' _;obtain⟨i',j1,j2,_⟩:=zG hz';rw[h1]at j1;cases j1;rw[h2]at j2;cases j2;exact hz'
      ·cases hz
     have hrow:=ET z len BV;rw[hzl]at hrow;have hpl:(parts.map λ(x:Nat×Operand)=>match x with|(i,x)=>(i,ρ' x)).toList=parts.toList.map λp=>(p.1,ρ' p.2):=by simp
     simp only[execOp,Instr.buildSlice,bP,dL hu,bR,kg h5,hzl,hpl];rw[if_neg (by omega)];simp only[bP,bR,dB];by_cases h0:len*s=0
     ·have hl0:len=0:=by
       rcases Nat.mul_eq_zero.1 h0 with hh|hh
       ·exact hh
       ·omega
      subst hl0;rw[if_pos h0];have hz0:(Array.map (λx=>(#[]:Array Value)[x%(#[]:Array Value).size]!) (Array.range (0*s)))=⟨zeros z 0⟩:=by rw[h0];exact Ou _
      simp only[bP,dB,bR,hz0,r1,newRow,run_newObj]
     ·rw[if_neg h0];simp only[bP,zH hzz,bR,h3,dB,hrow,r1,newRow,run_newObj]
    ·cases ha
   ·cases hc
  ·cases hc
 ·cases hc
theorem Wx{x:Operand}(hc:cop P ⟨dst,.move x,type,pos,after,guard⟩=some c)(hr:c.run P ρ h=some (v,h'))(hx:VR β (ρ x) (ρ' x))(hW:WR P β h w):
 Good P β h w (execOp ρ' ⟨dst,.move x,type,pos,after,guard⟩) v h':=by
 simp only[cop,aA]at hc;subst hc;simp only[ak.run,aA,bM]at hr;obtain⟨rfl,rfl⟩:=hr;exact Good.same hW (v':=ρ' x) (by simp[execOp]) hx
theorem Wy{x:Operand}(hc:cop P ⟨dst,.assign x,type,pos,after,guard⟩=some c)(hr:c.run P ρ h=some (v,h'))(hx:VR β (ρ x) (ρ' x))(hW:WR P β h w):
 Good P β h w (execOp ρ' ⟨dst,.assign x,type,pos,after,guard⟩) v h':=by
 simp only[cop,aA]at hc;subst hc;simp only[ak.run,aA,bM]at hr;obtain⟨rfl,rfl⟩:=hr;exact Good.same hW (v':=ρ' x) (by simp[execOp]) hx
theorem Wz{x y z:Operand}(hc:cop P ⟨dst,.pick x y z,type,pos,after,guard⟩=some c)(hr:c.run P ρ h=some (v,h'))(hx:VR β (ρ x) (ρ' x))(hy:VR β (ρ y) (ρ' y))(hz:VR β (ρ z) (ρ' z))(hW:WR P β h w):
 Good P β h w (execOp ρ' ⟨dst,.pick x y z,type,pos,after,guard⟩) v h':=by
 simp only[cop,aA]at hc;subst hc;simp only[ak.run]at hr;split at hr
 ·rename_i t ht;rw[ht]at hx;have hx':=hx.BS;simp only[aA,bM]at hr;obtain⟨rfl,rfl⟩:=hr;cases t
  ·exact Good.same hW (v':=ρ' z) (by simp[execOp,hx',asBool]) hz
  ·exact Good.same hW (v':=ρ' y) (by simp[execOp,hx',asBool]) hy
 ·cases hr
theorem run_places{fs:Array Field}(hall:fs.toList.all (λf=>(iw P f.type).isSome)=true)(w:World):
 ∃pl:Array (Nat×Nat),(fs.mapM λf=>do pure (f.offset,<- sizeOf f.type):Sem (Array (Nat×Nat))).run P w=.ok pl w/\∀(i:Nat) fd,fs[i]? =some fd->∃s,iw P fd.type=some s/\pl[i]? =some (fd.offset,s):=by
 obtain⟨l⟩:=fs;have key:∀l:List Field,l.all (λf=>(iw P f.type).isSome)=true->
  ∃pl:List (Nat×Nat),(l.mapM λf=>do pure (f.offset,<- sizeOf f.type):Sem (List (Nat×Nat))).run P w=.ok pl w/\∀(i:Nat) fd,l[i]? =some fd->∃s,iw P fd.type=some s/\pl[i]? =some (fd.offset,s):=by
  intro l;induction l with
  |nil=>intro _;exact⟨[],by simp,λi fd hi=>by simp at hi⟩
  |cons x l ih=>
   intro hl;simp only[xm,eG]at hl;obtain⟨pl,h1,h2⟩:=ih hl.2;obtain⟨s,hs⟩:=NH.1 hl.1;refine⟨(x.offset,s)::pl,?_,λi fd hi=>?_⟩
   ·simp only[List.mapM_cons,bP,kg hs,bR,dB,h1]
   ·cases i with
    |zero=>simp at hi;subst hi;exact⟨s,hs,by simp⟩
    |succ i=>simp at hi;obtain⟨s',a,b⟩:=h2 i fd hi;exact⟨s',a,by simpa using b⟩
 obtain⟨pl,h1,h2⟩:=key l hall;refine⟨⟨pl⟩,?_,λi fd hi=>?_⟩
 ·rw[List.mapM_toArray,Sem.run_map,h1];rfl
 ·obtain⟨s,a,b⟩:=h2 i fd (by simpa using hi);exact⟨s,a,by simpa using b⟩
theorem WA{fs:Array Field}{pl:Array (Nat×Nat)}(hpl:∀(i:Nat) fd,fs[i]? =some fd->∃s,iw P fd.type=some s/\pl[i]? =some (fd.offset,s)):
 ∀(parts:List (Nat×Operand)) (ps:List (Nat×Nat×Operand)),vR P fs parts=some ps->F2 (λ(p:Nat×Operand) (q:Nat×Nat×Operand)=>q.2.2=p.2/\pl[p.1]? =some (q.1,q.2.1)) parts ps:=by
 intro parts;induction parts with
 |nil=>intro ps h;simp[vR]at h;subst h;exact .nil
 |cons p parts ih=>
  intro ps h;obtain⟨i,x⟩:=p;simp only[vR]at h;split at h
  ·rename_i fd r BX hr;split at h
   ·rename_i s hs;cases h;refine .cons ⟨rfl,?_⟩ (ih r hr);obtain⟨s',a,b⟩:=hpl i fd BX;rw[hs]at a;cases a;exact b
   ·cases h
  ·cases h
theorem WB{t:TypeId}{parts:Array (Nat×Operand)}(hc:cop P ⟨dst,.build t parts,type,pos,after,guard⟩=some c)(hr:c.run P ρ h=some (v,h'))(hρ:∀p∈parts.toList,VR β (ρ p.2) (ρ' p.2))(hW:WR P β h w):
 Good P β h w (execOp ρ' ⟨dst,.build t parts,type,pos,after,guard⟩) v h':=by
 have hpl:(parts.map λ(x:Nat×Operand)=>match x with|(i,x)=>(i,ρ' x)).toList=parts.toList.map λp=>(p.1,ρ' p.2):=by simp
 simp only[cop]at hc;split at hc
 ·rename_i fs z hu hz;split at hc
  ·rename_i ps hps;cases hc;simp only[ak.run]at hr;split at hr
   ·rename_i cs hcs;simp only[aA,bM]at hr;obtain⟨rfl,rfl⟩:=hr;obtain⟨zv,i,h1,h2,h3,h4,h5⟩:=wh hz;unfold placesOf at hps;split at hps
    ·rename_i hall;obtain⟨pl,q1,q2⟩:=run_places (P:=P) hall w;obtain⟨cs',r1,r2,r3,_⟩:=I1 (β:=β) (place:=λi=>pl[i]?) (ρ:=ρ) (ρ':=ρ') parts.toList ps z z cs (WA q2 _ _ hps) (aJ.free h4) (rq h4) hcs hρ;refine Good.same hW (v':=.agg ⟨cs'⟩) ?_ (.agg r3 r2);simp only[execOp,Instr.build,bP,zeroValue,BQ h1,h2,bR,dB,h3,dL hu,q1,hpl,r1]
    ·cases hps
   ·cases hr
  ·cases hc
 ·rename_i n e z hu hz;split at hc
  ·rename_i s hs;cases hc;simp only[ak.run]at hr;split at hr
   ·rename_i cs hcs;simp only[aA,bM]at hr;obtain⟨rfl,rfl⟩:=hr;obtain⟨zv,i,h1,h2,h3,h4,h5⟩:=wh hz;obtain⟨hs1,hs2⟩:=qz hs;obtain⟨cs',r1,r2,r3,_⟩:=I1 (β:=β) (place:=λi=>some (i*s,s)) (ρ:=ρ) (ρ':=ρ') parts.toList _ z z cs (F2.of_map (λp=>(p.1*s,s,p.2)) _ λp _=>⟨rfl,rfl⟩) (aJ.free h4) (rq h4) hcs hρ;refine Good.same hW (v':=.agg ⟨cs'⟩) ?_ (.agg r3 r2);simp only[execOp,Instr.build,bP,zeroValue,BQ h1,h2,bR,dB,h3,dL hu,kg hs1,hpl,r1]
   ·cases hr
  ·cases hc
 ·cases hc
theorem WC{t:TypeId}{x:Operand}(hc:cop P ⟨dst,.load t x,type,pos,after,guard⟩=some c)(hr:c.run P ρ h=some (v,h'))(hx:VR β (ρ x) (ρ' x))(hW:WR P β h w):
 Good P β h w (execOp ρ' ⟨dst,.load t x,type,pos,after,guard⟩) v h':=by
 simp only[cop]at hc;split at hc
 ·rename_i hagg;cases hs:iw P t with
  |none=>simp[hs]at hc
  |some n=>
   simp only[hs,iT,aA]at hc;subst hc;simp only[ak.run]at hr;split at hr
   ·rename_i i o ha;rw[ha]at hx;obtain⟨g,hg,hx'⟩:=hx.rz;split at hr
    ·rename_i cs hcs;simp only[aA,bM]at hr;obtain⟨rfl,rfl⟩:=hr;obtain⟨blk,hb,hl⟩:=zJ hcs;obtain⟨l1,l2,l',l3,l4⟩:=EQ hW hg hb hl;obtain⟨d,hd⟩:=Oh hagg;refine Good.same hW (v':=.agg ⟨l'⟩) ?_ (.agg l2 l3);have:=IV (P:=P) (n:=n) (by rw[l3.length,l1]) l4;simp[execOp,Instr.loadAt,Instr.sureAddr,hx',loadVar,zI hd,hagg,kg hs,this]
    ·cases hr
   ·cases hr
 ·rename_i hagg;split at hc
  ·rename_i d hd;cases hc;simp only[ak.run]at hr;split at hr
   ·rename_i i o ha;rw[ha]at hx;obtain⟨g,hg,hx'⟩:=hx.rz;split at hr
    ·rename_i u hu0;simp only[aA,bM]at hr;obtain⟨rfl,rfl⟩:=hr;obtain⟨cs,hcs,hu⟩:=Oj hu0;have h7:∀(j:Nat) v,cs[j]? =some v->∃v',w.cell? ⟨g.b,g.off+j,none⟩=some v'/\VR β v v':=by
      rcases hcs with hcs|hcs
      ·obtain⟨_,_,_,_,_,h7⟩:=hW.obj i g _ hg hcs;exact h7
      ·obtain⟨_,_,_,h7⟩:=hW.obj i g _ hg hcs;exact h7
     rw[om]at hu;obtain⟨v',a,b⟩:=h7 _ _ hu;refine Good.same hW (v':=v') ?_ b;have I4:iD P t=false:=by simpa using hagg
     simp[execOp,Instr.loadAt,Instr.sureAddr,hx',loadVar,zI hd,I4,a]
    ·cases hr
   ·cases hr
  ·cases hc
theorem WE{t:TypeId}{x y:Operand}(hc:cop P ⟨dst,.store t x y,type,pos,after,guard⟩=some c)(hr:c.run P ρ h=some (v,h'))(hx:VR β (ρ x) (ρ' x))(hy:VR β (ρ y) (ρ' y))(hW:WR P β h w):
 Good P β h w (execOp ρ' ⟨dst,.store t x y,type,pos,after,guard⟩) v h':=by
 simp only[cop]at hc;cases hs:iw P t with
 |none=>simp[hs]at hc
 |some n=>
  simp only[hs,iT,aA]at hc;subst hc;simp only[ak.run]at hr;split at hr
  ·rename_i i o vs ha hv;rw[ha]at hx;obtain⟨g,hg,hx'⟩:=hx.rz;cases hb:Nat.beq (gB vs) n with
   |false=>rw[hb]at hr;cases hr
   |true=>
    rw[hb]at hr;simp only[cond_true]at hr;split at hr
    ·rename_i h1 hst;simp only[aA,bM]at hr;obtain⟨rfl,rfl⟩:=hr;obtain⟨c1,vs',c2,c3⟩:=hy.cells hv;obtain⟨m1,m2,m3⟩:=IX hW hg hst c3 c1;refine⟨.skip,_,β,undef,?_,.inr ⟨rfl,rfl⟩,.bU _,m2,m3⟩;have hlen:vs'.length=n:=by rw[c3.length,<- rf];exact nU hb
     have hsz:((ρ' y).cells.size≠n)=False:=by simp[c2,hlen]
     simp[execOp,Instr.storeAt,Instr.sureAddr,hx',storeVar,kg hs,hsz,c2,m1 0 rfl,hlen]
    ·cases hr
  ·cases hr
end
end Go.Ideal
namespace Go.Ideal
variable {P:Program} {β:az} {h:IH} {w:World}
section
variable {dst:Option Tmp} {type:TypeId} {pos:String} {after:Array Edge} {guard:Option (Nat×Bool)} {c:ak} {ρ ρ':Operand->Value} {v:Value} {h':IH}
theorem WG{x:Operand}(hc:cop P ⟨dst,.nilCheck x,type,pos,after,guard⟩=some c)(hr:c.run P ρ h=some (v,h'))(hx:VR β (ρ x) (ρ' x))(hW:WR P β h w):
 Good P β h w (execOp ρ' ⟨dst,.nilCheck x,type,pos,after,guard⟩) v h':=by
 simp only[cop,aA]at hc;subst hc;simp only[ak.run]at hr;split at hr<;>simp only[aA,bM,reduceCtorEq]at hr
 ·rename_i a ha;obtain⟨rfl,rfl⟩:=hr;rw[ha]at hx;refine Good.same hW (v':=ρ' x) ?_ hx;have:∃a',ρ' x=.pointer (some a'):=by
   generalize ρ' x=u at hx;cases hx with|ptr hi=>exact⟨_,rfl⟩
  obtain⟨a',e⟩:=this;simp[execOp,e]
 ·rename_i t u ha;obtain⟨rfl,rfl⟩:=hr;rw[ha]at hx;refine Good.same hW (v':=ρ' x) ?_ hx;obtain⟨u',_,e⟩:=hx.xQ;simp[execOp,e]
 ·rename_i f first captured ha
  obtain⟨rfl,rfl⟩:=hr;rw[ha]at hx;refine Good.same hW (v':=ρ' x) ?_ hx;obtain⟨fn',f',c',h1,_,_,e⟩:=hx.vZ;cases h1;simp[execOp,e]
 ·rename_i t n first captured ha
  obtain⟨rfl,rfl⟩:=hr;rw[ha]at hx;refine Good.same hW (v':=ρ' x) ?_ hx;obtain⟨fn',f',c',h1,_,_,e⟩:=hx.vZ;cases h1;simp[execOp,e]
 ·rename_i l first captured ha
  obtain⟨rfl,rfl⟩:=hr;rw[ha]at hx;refine Good.same hW (v':=ρ' x) ?_ hx;obtain⟨fn',f',c',h1,_,_,e⟩:=hx.vZ;cases h1;simp[execOp,e]
theorem oq(a b:Int):leZ a b=decide (a<=b):=by
 cases a<;>cases b<;>simp only[leZ]
 ·rename_i x y;rw[za];simp[nu]
 ·rename_i x y;simp;omega
 ·rename_i x y;simp;omega
 ·rename_i x y;rw[za];simp[nu];omega
theorem BZ(a b:Int):zq a b=(a==b):=by
 cases a<;>cases b<;>simp only[zq]
 ·rename_i x y;rw[za];simp[Nat.beq_eq];omega
 ·rfl
 ·rfl
 ·rename_i x y;rw[za];simp[Nat.beq_eq]
theorem Ov(a b:Int):NZ a b=a+b:=by cases a<;>cases b<;>rfl
theorem Ow(a b:Int):IE a b=a - b:=by
 cases a<;>cases b<;>simp only[IE]
 rename_i x y;cases hb:Nat.ble y x with
 |true=>
  have:=jY hb;show Int.ofNat (x - y)=_;simp;omega
 |false=>
  have:¬y<=x:=λhh=>by rw[Es hh]at hb;cases hb
  show Int.negSucc ((y - x).pred)=_;simp[Int.negSucc_eq,Nat.pred_eq_sub_one];omega
theorem I5(k:IntKind)(n:Int):BC k n=k.wrap n:=by
 have hmax:IC=9223372036854775807:=rfl;have key:∀n:Int, -9223372036854775808<=n/\n<=9223372036854775807->n=IntKind.i64.wrap n:=λn hn=>(IntWalk.i64_in n hn).symm;unfold BC;split
 ·rename_i m;cases hb:Nat.ble m IC with
  |true=>have:=jY hb;exact(cond_true _ _).trans (key _ (by rw[Int.ofNat_eq_natCast];omega))
  |false=>exact cond_false _ _
 ·rename_i m;cases hb:Nat.ble m 1000000 with
  |true=>
   have h1:=jY hb;have h2:(-1000001:Int)<=Int.negSucc m:=by rw[Int.negSucc_eq];omega
   have h3:Int.negSucc m<=0:=by rw[Int.negSucc_eq];omega
   exact(cond_true _ _).trans (key _ ⟨Int.le_trans (by decide) h2,Int.le_trans h3 (by decide)⟩)
  |false=>exact cond_false _ _
 ·rfl
theorem Ox{j k:IntKind}(h:sJ j k=true):j=k:=by
 cases j<;>cases k<;>first|rfl|(simp[sJ]at h)
theorem WH{op:BinOp}{k:IntKind}{a b:Int}{v:Value}{t:TypeId}(h:og op k a b=some v)(w:World):(binOp op t (.int k a) (.int k b)).run P w=.ok v w:=by
 unfold og at h;split at h<;>simp only[aA,reduceCtorEq]at h<;>subst h
 ·simp[binOp,Op.intArith,I5,Ov]
 ·simp[binOp,Op.intArith,I5,Ow]
 ·simp[binOp,Op.intCmp,BZ]
 ·simp[binOp,Op.intCmp,BZ];rfl
 ·simp[binOp,Op.intCmp,oq,<- Int.not_le]
 ·simp[binOp,Op.intCmp,oq,<- Int.not_le]
 ·simp[binOp,Op.intCmp,oq,<- Int.not_le]
 ·simp[binOp,Op.intCmp,oq,<- Int.not_le]
theorem I6(op:BinOp)(t:TypeId)(x y:Operand)(a b:Value)(w:World)(h1:∀u,a≠.agg u)(h2:¬(a=.nilIface/\b=.nilIface)):(eqGuard op t x y a b).run P w=.ok () w:=by
 cases op<;>first
  |rfl
  |(cases a<;>first
   |rfl
   |exact absurd rfl (h1 _)
   |(cases b<;>first
    |rfl
    |exact absurd ⟨rfl,rfl⟩ h2))
theorem WI(d:Nat){t:TypeId}{a b a' b':Value}{r:Bool}(h:uw P t a b=some r)(ha:VR β a a')(hb:VR β b b')(w:World):
 (Op.equalIn (d+1) t a' b').run P w=.ok r w/\(∀u,a'≠.agg u)/\¬(a'=.nilIface/\b'=.nilIface)/\(∀k n,a'≠.int k n)/\(∀s,a'≠.string s)/\(∀k n,a'≠.float k n)/\(∀k n m,a'≠.complex k n m):=by
 cases hu:P.underlying t with
 |none=>unfold uw at h;simp[hu]at h
 |some ty=>
  unfold uw at h;rw[hu]at h;split at h<;>simp only[aA,reduceCtorEq]at h<;>subst h
  all_goals
   have he:=‹some ty=some _›;obtain rfl:=Option.some.inj he;cases ha<;>cases hb<;>refine⟨?_,by simp,by simp,by simp,by simp,by simp,by simp⟩<;>(unfold Op.equalIn;simp only[bP,dL hu,bR];rfl)
theorem Oy{t:TypeId}{a b a' b':Value}{r:Bool}(h:uw P t a b=some r)(ha:VR β a a')(hb:VR β b b')(w:World):
 (Op.equal t a' b').run P w=.ok r w/\(∀u,a'≠.agg u)/\¬(a'=.nilIface/\b'=.nilIface)/\(∀k n,a'≠.int k n)/\(∀s,a'≠.string s)/\(∀k n,a'≠.float k n)/\(∀k n m,a'≠.complex k n m):=
 WI 9999 h ha hb w
theorem Ca{s:Sem Value}{v:Value}(h:jZ P s=some v):dF P s=some v/\bY v=true:=by
 unfold jZ at h;split at h
 ·rename_i u hu;cases hf:bY u with
  |true=>rw[hf]at h;simp only[cond_true,aA]at h;subst h;exact⟨hu,hf⟩
  |false=>rw[hf]at h;cases h
 ·cases h
theorem WJ{op:BinOp}{t:TypeId}{x y:Operand}{yt:TypeId}(hc:cop P ⟨dst,.binOp op t x y yt,type,pos,after,guard⟩=some c)(hr:c.run P ρ h=some (v,h'))(hx:VR β (ρ x) (ρ' x))(hy:VR β (ρ y) (ρ' y))(hW:WR P β h w):
 Good P β h w (execOp ρ' ⟨dst,.binOp op t x y yt,type,pos,after,guard⟩) v h':=by
 simp only[cop,aA]at hc;subst hc;simp only[ak.run]at hr;split at hr
 ·rename_i u hu;simp only[aA,bM]at hr;obtain⟨rfl,rfl⟩:=hr;unfold qw at hu;split at hu
  · -- integers
    rename_i v1 hv1;simp only[aA]at hu;subst hu;split at hv1
    ·rename_i j m k n hm hn;cases hk:sJ j k with
     |false=>rw[hk]at hv1;cases hv1
     |true=>
      rw[hk]at hv1;simp only[cond_true]at hv1;have:=Ox hk;subst this;rw[hm]at hx;rw[hn]at hy;have hx':=hx.ko;have hy':=hy.ko;have hfree:bY v1=true:=by
       unfold og at hv1;split at hv1<;>simp only[aA,reduceCtorEq]at hv1<;>subst hv1<;>rfl
      refine Good.same hW (v':=v1) ?_ (VR.free hfree);simp only[execOp,hx',hy',bP,I6 op t x y (.int j m) (.int j n) w (by simp) (by simp),bR,WH hv1,dB]
    ·cases hv1
  ·cases hf:bY (ρ x)&&bY (ρ y)with
   |true=>
    rw[hf]at hu;simp only[cond_true]at hu;simp only[eG]at hf;have hx':=hx.lg hf.1;have hy':=hy.lg hf.2;obtain⟨hu1,hu2⟩:=Ca hu;have hrun:=vW hu1 w;refine Good.same hW (v':=u) ?_ (VR.free hu2);simp only[execOp,hx',hy'];simp only[bP]at hrun⊢;rw[hrun];rfl
   |false=>
    rw[hf]at hu;simp only[cond_false]at hu;have Oz:∀(a b:Value),(∀k n,a≠.int k n)->(∀s,a≠.string s)->(∀k n,a≠.float k n)->(∀k n m,a≠.complex k n m)->
     binOp .eql t a b=(do pure (.bool (<- Op.equal t a b)))/\binOp .neq t a b=(do pure (.bool (!(<- Op.equal t a b)))):=by
     intro a b h1 h2 h3 h4;constructor<;>unfold binOp<;>cases a<;>first|rfl|exact absurd rfl (h1 _ _)|exact absurd rfl (h2 _)|exact absurd rfl (h3 _ _)|exact absurd rfl (h4 _ _ _)
    split at hu
    ·split at hu
     ·rename_i r hr2;simp only[aA]at hu;subst hu;obtain⟨e1,e2,e3,e4,e5,e6,e7⟩:=Oy hr2 hx hy w;refine Good.same hW (v':=.bool r) ?_ (.bool r);simp only[execOp,bP,I6 _ t x y _ _ w e2 e3,bR,(Oz _ _ e4 e5 e6 e7).1,e1,dB]
     ·cases hu
    ·split at hu
     ·rename_i r hr2;simp only[aA]at hu;subst hu;obtain⟨e1,e2,e3,e4,e5,e6,e7⟩:=Oy hr2 hx hy w;refine Good.same hW (v':=.bool !r) ?_ (.bool _);simp only[execOp,bP,I6 _ t x y _ _ w e2 e3,bR,(Oz _ _ e4 e5 e6 e7).2,e1,dB]
     ·cases hu
    ·cases hu
 ·cases hr
theorem WK{op:UnOp}{t:TypeId}{x:Operand}(hc:cop P ⟨dst,.unOp op t x,type,pos,after,guard⟩=some c)(hr:c.run P ρ h=some (v,h'))(hx:VR β (ρ x) (ρ' x))(hW:WR P β h w):
 Good P β h w (execOp ρ' ⟨dst,.unOp op t x,type,pos,after,guard⟩) v h':=by
 simp only[cop,aA]at hc;subst hc;simp only[ak.run]at hr;cases hf:bY (ρ x)with
 |false=>rw[hf]at hr;cases hr
 |true=>
  rw[hf]at hr;simp only[cond_true]at hr;split at hr
  ·rename_i u hu;simp only[aA,bM]at hr;obtain⟨rfl,rfl⟩:=hr;obtain⟨h1,h2⟩:=Ca hu;have hx':=hx.lg hf;exact Good.same hW (v':=u) (by simp only[execOp,hx',bP,vW h1 w,bR,dB]) (VR.free h2)
  ·cases hr
theorem WL{t:TypeId}{x:Operand}(hc:cop P ⟨dst,.makeInterface t x,type,pos,after,guard⟩=some c)(hr:c.run P ρ h=some (v,h'))(hx:VR β (ρ x) (ρ' x))(hW:WR P β h w):
 Good P β h w (execOp ρ' ⟨dst,.makeInterface t x,type,pos,after,guard⟩) v h':=by
 simp only[cop]at hc;split at hc
 ·cases hc
 ·rename_i d hni hu;cases hc;simp only[ak.run,aA,bM]at hr;obtain⟨rfl,rfl⟩:=hr;refine Good.same hW (v':=.iface t (ρ' x)) ?_ (.iface t hx);simp only[execOp,Instr.makeInterface,bP,dL hu,bR];cases d<;>first|rfl|exact absurd rfl (hni _)
 ·cases hc
theorem FR.refl{fn:Fn}(h:EK fn=true):FR β fn fn:=by
 cases fn with
 |func f=>exact .func f
 |method n=>exact .method n
 |methodOf t n=>exact .methodOf t n
 |via=>simp[EK]at h
 |yield l=>simp[EK]at h
theorem WM{fn:Fn}{first captured:Array Operand}(hc:cop P ⟨dst,.makeFunc fn first captured,type,pos,after,guard⟩=some c)(hr:c.run P ρ h=some (v,h'))
 (hf:∀x∈first.toList,VR β (ρ x) (ρ' x)) (hk:∀x∈captured.toList,VR β (ρ x) (ρ' x)) (hW:WR P β h w):
 Good P β h w (execOp ρ' ⟨dst,.makeFunc fn first captured,type,pos,after,guard⟩) v h':=by
 simp only[cop]at hc;split at hc
 ·rename_i hfn;cases hc;simp only[ak.run,aA,bM]at hr;obtain⟨rfl,rfl⟩:=hr;refine Good.same hW (v':=.func fn (first.map ρ') (captured.map ρ')) (by simp[execOp,Instr.makeFunc]) ?_;have e1:first.map ρ'=⟨first.toList.map ρ'⟩:=by apply Array.ext';rw[Ii]
  have e2:captured.map ρ'=⟨captured.toList.map ρ'⟩:=by apply Array.ext';rw[Ii]
  rw[e1,e2];exact .func (FR.refl hfn) (aJ.of_map hf) (aJ.of_map hk)
 ·cases hc
theorem WN{a:Addr}{f:Field}{n:Nat}(hs:iw P f.type=some n)(hn:0<n)(w:World):(fieldPlace a f).run P w=.ok (a.add f.offset) w:=by
 simp only[fieldPlace,bP,kg hs,bR];rw[if_neg (by omega)];rfl
theorem WO{s:TypeId}{x:Operand}{f:Nat}(hc:cop P ⟨dst,.fieldAddr s x f,type,pos,after,guard⟩=some c)(hr:c.run P ρ h=some (v,h'))(hx:VR β (ρ x) (ρ' x))(hW:WR P β h w):
 Good P β h w (execOp ρ' ⟨dst,.fieldAddr s x f,type,pos,after,guard⟩) v h':=by
 simp only[cop]at hc;split at hc
 ·rename_i fs hu;split at hc
  ·rename_i fd BX;cases hs:kJ P fd.type with
   |none=>simp[hs]at hc
   |some n=>
    simp only[hs,iT,aA]at hc;subst hc;obtain⟨hs1,hs2⟩:=qz hs;simp only[ak.run]at hr;split at hr
    ·rename_i i o ha;rw[ha]at hx;obtain⟨g,hg,hx'⟩:=hx.rz;simp only[aA,bM]at hr;obtain⟨rfl,rfl⟩:=hr;refine Good.same hW (v':=.pointer (some ⟨g.b,g.off+(o+fd.offset),none⟩)) ?_ (.ptr hg);simp only[execOp,Instr.fieldAt,bP,dL hu,bR,BX,hx',Instr.sureAddr,dB,WN hs1 hs2,addr_add,lS]
    ·cases hr
  ·cases hc
 ·cases hc
theorem OB{t:TypeId}{cs cs':List Value}{off n:Nat}{d:TypeDesc}(hd:P.underlying t=some d)(hs:iw P t=some n)(hv:aJ β cs cs')(hall:cs.all cellV=true){v:Value}
 (hr:(match iD P t with
   |true=>match iC (iZ cs off) n with
    |some l=>some (.agg ⟨l⟩:Value)
    |none=>none
   |false=>iq cs off)=some v) (w:World):∃v',(part t ⟨cs'⟩ off).run P w=.ok v' w/\VR β v v':=by
 cases hagg:iD P t with
 |true=>
  rw[hagg]at hr;simp only at hr;rw[j6,j5]at hr;split at hr
  ·rename_i l hl;split at hl
   ·rename_i hn;cases hl;simp only[aA]at hr;subst hr;refine⟨.agg ⟨(cs'.drop off).take n⟩,?_,.agg ?_ ((hv.drop off).take n)⟩
    ·simp only[part,bP,zI hd,hagg,bR,if_true,kg hs,dB];congr 2;apply Array.ext';simp[Array.toList_extract,NI]
    ·rw[iB]at hall⊢;exact λx hx=>hall x (List.mem_of_mem_drop (y7 hx))
   ·cases hl
  ·cases hr
 |false=>
  rw[hagg]at hr;simp only at hr;rw[om]at hr;obtain⟨v',h1,h2⟩:=hv.get hr;refine⟨v',?_,h2⟩;simp only[part,bP,zI hd,hagg,bR,um,if_false];have:(⟨cs'⟩:Array Value)[off]? =some v':=by simpa using h1
  simp[this]
theorem WQ{t:TypeId}{x:Operand}{f:Nat}(hc:cop P ⟨dst,.field t x f,type,pos,after,guard⟩=some c)(hr:c.run P ρ h=some (v,h'))(hx:VR β (ρ x) (ρ' x))(hW:WR P β h w):
 Good P β h w (execOp ρ' ⟨dst,.field t x f,type,pos,after,guard⟩) v h':=by
 simp only[cop]at hc;split at hc
 ·rename_i fs hu;split at hc
  ·rename_i fd BX;split at hc
   ·rename_i n d hs hd;cases hc;simp only[ak.run]at hr;split at hr
    ·rename_i cs ha;rw[ha]at hx;obtain⟨cs',h1,h2,hx'⟩:=hx.IY;have hr':h'=h/\(match iD P fd.type with
      |true=>match iC (iZ cs fd.offset) n with
       |some l=>some (.agg ⟨l⟩:Value)
       |none=>none
      |false=>iq cs fd.offset)=some v:=by
      cases hagg:iD P fd.type with
      |true=>
       rw[hagg]at hr;simp only at hr⊢;split at hr
       ·rename_i l hl;rw[hl];simp only[aA,bM]at hr⊢;exact⟨hr.2.symm,hr.1⟩
       ·cases hr
      |false=>
       rw[hagg]at hr;simp only at hr⊢;split at hr
       ·rename_i l hl;rw[hl];simp only[aA,bM]at hr⊢;exact⟨hr.2.symm,hr.1⟩
       ·cases hr
     obtain⟨rfl,hr2⟩:=hr';obtain⟨v',p1,p2⟩:=OB hd hs h1 h2 hr2 w;refine Good.same hW (v':=v') ?_ p2;simp only[execOp,Instr.field,bP,dL hu,bR,BX,hx',asAgg,dB,p1]
    ·cases hr
   ·cases hc
  ·cases hc
 ·cases hc
theorem WS{t:TypeId}{x y:Operand}(hc:cop P ⟨dst,.indexAddr t x y,type,pos,after,guard⟩=some c)(hr:c.run P ρ h=some (v,h'))(hx:VR β (ρ x) (ρ' x))(hy:VR β (ρ y) (ρ' y))(hW:WR P β h w):
 Good P β h w (execOp ρ' ⟨dst,.indexAddr t x y,type,pos,after,guard⟩) v h':=by
 simp only[cop]at hc;split at hc
 ·rename_i n e hu;cases hs:kJ P e with
  |none=>simp[hs]at hc
  |some s=>
   simp only[hs,iT,aA]at hc;subst hc;obtain⟨hs1,hs2⟩:=qz hs;simp only[ak.run]at hr;split at hr
   ·rename_i b o k i ha hi;rw[ha]at hx;rw[hi]at hy;obtain⟨g,hg,hx'⟩:=hx.rz;have hy':=hy.ko;cases hb:Nat.blt i n with
    |false=>rw[hb]at hr;cases hr
    |true=>
     rw[hb]at hr;simp only[cond_true,aA,bM]at hr;obtain⟨rfl,rfl⟩:=hr;have hlt:i<n:=by simpa[pu]using hb
     refine Good.same hW (v':=.pointer (some ⟨g.b,g.off+Nat.add o (Nat.mul i s),none⟩)) ?_ (.ptr hg);simp only[execOp,Instr.indexAt,bP,hy',asIntOf,dB,bR,dL hu,hx',Instr.sureAddr];rw[if_pos ⟨by simp,by simp;omega⟩];simp[kg hs1,addr_add,lS]
   ·cases hr
 ·rename_i e hu;cases hs:kJ P e with
  |none=>simp[hs]at hc
  |some s=>
   simp only[hs,iT,aA]at hc;subst hc;obtain⟨hs1,hs2⟩:=qz hs;simp only[ak.run]at hr;split at hr
   ·rename_i b o f n k' k i ha hi;rw[ha]at hx;rw[hi]at hy;obtain⟨g,a,c',hg,hx',ha1,ha2,hn,hcc,hoff,_⟩:=hx.lm;have hy':=hy.ko;cases hb:Nat.blt i n with
    |false=>rw[hb]at hr;cases hr
    |true=>
     rw[hb]at hr;simp only[cond_true,aA,bM]at hr;obtain⟨rfl,rfl⟩:=hr;have hlt:i<n:=by simpa[pu]using hb
     have hae:a=⟨g.b,g.off+o,none⟩:=by
      rcases hoff with h0|⟨h0,ha2⟩
      ·omega
      ·obtain⟨ab,ao,as⟩:=a;simp at ha1 ha2 h0;subst ha1 ha2 h0;rfl
     refine Good.same hW (v':=.pointer (some ⟨g.b,g.off+Nat.add o (Nat.mul i s),none⟩)) ?_ (.ptr hg);simp only[execOp,Instr.indexAt,bP,hy',asIntOf,dB,bR,dL hu,hx',hae];rw[if_pos ⟨by simp,by simp;omega⟩];simp[kg hs1,addr_add,lS]
   ·cases hr
 ·cases hc
theorem WT{x:Operand}{i:Nat}(hc:cop P ⟨dst,.extract x i,type,pos,after,guard⟩=some c)(hr:c.run P ρ h=some (v,h'))(hx:VR β (ρ x) (ρ' x))(hW:WR P β h w):
 Good P β h w (execOp ρ' ⟨dst,.extract x i,type,pos,after,guard⟩) v h':=by
 simp only[cop,aA]at hc;subst hc;simp only[ak.run]at hr;split at hr
 ·rename_i vs ha;split at hr
  ·rename_i u hu;simp only[aA,bM]at hr;obtain⟨rfl,rfl⟩:=hr;rw[ha]at hx;rw[om]at hu;generalize hy:ρ' x=y at hx;cases hx with
   |bU=>simp at hu
   |tuple hl=>
    obtain⟨v',h1,h2⟩:=hl.get hu;refine Good.same hW (v':=v') ?_ h2;rename_i l';have:(⟨l'⟩:Array Value)[i]? =some v':=by simpa using h1
    simp[execOp,Instr.extract,hy,this]
  ·cases hr
 ·cases hr
end
end Go.Ideal
namespace Go.Ideal
variable {P:Program} {β:az} {h:IH} {w:World}
theorem xR{m:Nat}{v:Value}{i:Nat}(h:upTo m v=some i):∃k,v=.int k i/\i<=m:=by
 unfold upTo at h;split at h
 ·rename_i k n;cases hb:Nat.ble n m with
  |true=>rw[hb]at h;simp only[cond_true,aA]at h;subst h;exact⟨k,rfl,jY hb⟩
  |false=>rw[hb]at h;cases h
 ·cases h
theorem uG{v:Value}{y m i:Nat}{code:BoundsCode}(h:upTo m v=some i)(hm:m<=y)(w:World):(Instr.sliceBound v y code).run P w=.ok i w:=by
 obtain⟨k,rfl,hle⟩:=xR h;simp only[Instr.sliceBound,asIntOf,bP,dB,bR];rw[if_pos ⟨by omega,by omega⟩];simp
theorem Cb{len cap:Nat}{lo hi mx:Option Value}{l hh m:Nat}(h:bounds? len cap lo hi mx=some (l,hh,m)):
 (∀v,mx=some v->upTo cap v=some m)/\(mx=none->m=cap)/\(∀v,hi=some v->upTo m v=some hh)/\(hi=none->mx=none/\hh=len)/\
 (∀v,lo=some v->upTo hh v=some l)/\(lo=none->l=0):=by
 unfold bounds? at h;split at h
 ·cases h
 ·rename_i m' hm;split at h
  ·cases h
  ·rename_i h1 hhi;split at h
   ·cases h
   ·rename_i l1 hlo;simp only[aA,bM]at h;obtain⟨rfl,rfl,rfl⟩:=h;refine⟨?_,?_,?_,?_,?_,?_⟩
    ·rintro v rfl;exact hm
    ·rintro rfl;simp at hm;exact hm.symm
    ·rintro v rfl;exact hhi
    ·rintro rfl;cases mx with
     |some v=>simp at hhi
     |none=>simp at hhi;exact⟨rfl,hhi.symm⟩
    ·rintro v rfl;exact hlo
    ·rintro rfl;simp at hlo;exact hlo.symm
theorem I7{len cap:Nat}{lo hi mx:Option Value}{l hh m:Nat}(h:bounds? len cap lo hi mx=some (l,hh,m))(hlc:len<=cap):l<=hh/\hh<=m/\m<=cap:=by
 obtain⟨h1,h2,h3,h4,h5,h6⟩:=Cb h;refine⟨?_,?_,?_⟩
 ·cases lo with
  |some v=>obtain⟨_,_,hle⟩:=xR (h5 v rfl);exact hle
  |none=>rw[h6 rfl];exact bF _
 ·cases hi with
  |some v=>obtain⟨_,_,hle⟩:=xR (h3 v rfl);exact hle
  |none=>obtain⟨q1,q2⟩:=h4 rfl;rw[q2,h2 q1];exact hlc
 ·cases mx with
  |some v=>obtain⟨_,_,hle⟩:=xR (h1 v rfl);exact hle
  |none=>rw[h2 rfl];exact aH _
theorem EU{Cc:Bool}{len cap cap':Nat}{lo hi mx:Option Value}{l hh m:Nat}(h:bounds? len cap lo hi mx=some (l,hh,m))(hc:cap<=cap')(w:World):
 (Instr.sliceBounds Cc len cap' lo hi mx).run P w=.ok (l,hh,if mx.isSome then m else cap') w:=by
 obtain⟨h1,h2,h3,h4,h5,h6⟩:=Cb h;unfold Instr.sliceBounds;cases mx with
 |some v=>
  have h1:=h1 v rfl;cases hi with
  |none=>exact absurd (h4 rfl).1 (by simp)
  |some u=>
   have h3:=h3 u rfl;cases lo with
   |none=>have h6:=h6 rfl;subst h6;simp[uG h1 hc,uG h3 (aH _)]
   |some x=>have h5:=h5 x rfl;simp[uG h1 hc,uG h3 (aH _),uG h5 (aH _)]
 |none=>
  have h2:=h2 rfl;subst h2;cases hi with
  |none=>
   obtain⟨_,rfl⟩:=h4 rfl;cases lo with
   |none=>have h6:=h6 rfl;subst h6;simp
   |some x=>have h5:=h5 x rfl;simp[uG h5 (aH _)]
  |some u=>
   have h3:=h3 u rfl;cases lo with
   |none=>have h6:=h6 rfl;subst h6;simp[uG h3 hc]
   |some x=>have h5:=h5 x rfl;simp[uG h3 hc,uG h5 (aH _)]
theorem I8{len cap:Nat}{lo hi mx:Option Value}{l hh m:Nat}(h:bounds? len cap lo hi mx=some (l,hh,m)):(if mx.isSome then m else cap)=m:=by
 obtain⟨_,h2,_⟩:=Cb h;cases mx with
 |some v=>rfl
 |none=>rw[h2 rfl];rfl
theorem I9{len cap:Nat}{lo hi mx:Option Operand}{ρ ρ':Operand->Value}{r:Nat×Nat×Nat}(h:bounds? len cap (fD ρ lo) (fD ρ hi) (fD ρ mx)=some r)
 (hl:∀x,lo=some x->VR β (ρ x) (ρ' x)) (hh:∀x,hi=some x->VR β (ρ x) (ρ' x)) (hm:∀x,mx=some x->VR β (ρ x) (ρ' x)):
 lo.map ρ'=fD ρ lo/\hi.map ρ'=fD ρ hi/\mx.map ρ'=fD ρ mx:=by
 obtain⟨l,hi2,m⟩:=r;obtain⟨h1,_,h3,_,h5,_⟩:=Cb h;refine⟨?_,?_,?_⟩
 ·cases lo with
  |none=>rfl
  |some x=>
   obtain⟨k,hk,_⟩:=xR (h5 _ rfl);have:=hl x rfl;rw[hk]at this;simp[fD,hk,this.ko]
 ·cases hi with
  |none=>rfl
  |some x=>
   obtain⟨k,hk,_⟩:=xR (h3 _ rfl);have:=hh x rfl;rw[hk]at this;simp[fD,hk,this.ko]
 ·cases mx with
  |none=>rfl
  |some x=>
   obtain⟨k,hk,_⟩:=xR (h1 _ rfl);have:=hm x rfl;rw[hk]at this;simp[fD,hk,this.ko]
section
variable {dst:Option Tmp} {type:TypeId} {pos:String} {after:Array Edge} {guard:Option (Nat×Bool)} {c:ak} {ρ ρ':Operand->Value} {v:Value} {h':IH}
theorem WU{t:TypeId}{x:Operand}{lo hi mx:Option Operand}(hc:cop P ⟨dst,.slice t x lo hi mx,type,pos,after,guard⟩=some c)(hr:c.run P ρ h=some (v,h'))(hx:VR β (ρ x) (ρ' x))
 (hl:∀x,lo=some x->VR β (ρ x) (ρ' x)) (hh:∀x,hi=some x->VR β (ρ x) (ρ' x)) (hm:∀x,mx=some x->VR β (ρ x) (ρ' x)) (hW:WR P β h w):
 Good P β h w (execOp ρ' ⟨dst,.slice t x lo hi mx,type,pos,after,guard⟩) v h':=by
 simp only[cop]at hc;split at hc
 · -- a string
   rename_i hu;cases hc;simp only[ak.run]at hr;split at hr
   ·rename_i s hs;split at hr
    ·rename_i b hb;split at hr
     ·rename_i u hu2;simp only[aA,bM]at hr;obtain⟨rfl,rfl⟩:=hr;obtain⟨h1,h2⟩:=Ca hu2;rw[hs]at hx;have hx':=hx.vY;obtain⟨e1,e2,e3⟩:=I9 hb hl hh hm;refine Good.same hW (v':=u) ?_ (VR.free h2);simp only[execOp,Instr.sliceAt,bP,dL hu,bR,hx',e1,e2,e3,vW h1 w,dB]
     ·cases hr
    ·cases hr
   ·cases hr
 · -- an array
   rename_i n e hu;cases hs:kJ P e with
   |none=>simp[hs]at hc
   |some s=>
    simp only[hs,iT,aA]at hc;subst hc;obtain⟨hs1,hs2⟩:=qz hs;simp only[ak.run]at hr;split at hr
    ·rename_i i o ha;split at hr
     ·rename_i l h1 m hb;simp only[aA,bM]at hr;obtain⟨rfl,rfl⟩:=hr;rw[ha]at hx;obtain⟨g,hg,hx'⟩:=hx.rz;obtain⟨e1,e2,e3⟩:=I9 hb hl hh hm;have b1:=EU (P:=P) (Cc:=false) hb (aH _) w;rw[I8 hb]at b1;have hlen:=I7 hb (aH _);refine Good.same hW (v':=.slice (some (if m=l then(⟨g.b,g.off+o,none⟩:Addr)else(⟨g.b,g.off+o,none⟩:Addr).add (l*s))) (h1 - l) (m - l)) ?_ ?_
      ·simp only[execOp,Instr.sliceAt,bP,dL hu,bR,hx',Instr.sureAddr,dB,e1,e2,e3,b1,kg hs1]
      ·refine .aI hg ?_ (by show h1 - l<=m - l;omega) ?_
       ·split<;>simp[addr_add]
       ·by_cases hml:m=l
        ·left;show m - l=0;omega
        ·right;rw[if_neg hml,addr_add];simp[lS]
     ·cases hr
    ·cases hr
 · -- a slice
   rename_i e hu;cases hs:kJ P e with
   |none=>simp[hs]at hc
   |some s=>
    simp only[hs,iT,aA]at hc;subst hc;obtain⟨hs1,hs2⟩:=qz hs;simp only[ak.run]at hr;split at hr
    ·rename_i a len cap ha;split at hr
     ·rename_i l h1 m hb;rw[ha]at hx;obtain⟨e1,e2,e3⟩:=I9 hb hl hh hm;split at hr
      · -- nil
        simp only[aA,bM]at hr;obtain⟨rfl,rfl⟩:=hr;have hx':ρ' x=.slice none len cap:=by generalize ρ' x=y at hx;cases hx;rfl
        have b1:=EU (P:=P) (Cc:=true) hb (aH _) w;rw[I8 hb]at b1;refine Good.same hW (v':=.slice none (h1 - l) (m - l)) ?_ (.sl0 _ _);simp only[execOp,Instr.sliceAt,Instr.slice,bP,dL hu,bR,hx',e1,e2,e3,b1,kg hs1,dB];split<;>rfl
      · -- of known capacity
        rename_i i o;simp only[aA,bM]at hr;obtain⟨rfl,rfl⟩:=hr;obtain⟨g,a',c',hg,hx',ha1,ha2,hn,hcc,hoff,hkind⟩:=hx.lm;have hc':c'=cap:=by
         rcases hkind with hk|hk
         ·exact hk.2
         ·have:=hk.1;simp at this;omega
        subst hc';have b1:=EU (P:=P) (Cc:=true) hb (aH _) w;rw[I8 hb]at b1;have hlen:=I7 hb hn;obtain⟨ab,ao,as⟩:=a';simp only at ha1 hoff;subst ha1;refine Good.same hW (v':=.slice (some (if m=l then(⟨g.b,ao,as⟩:Addr)else(⟨g.b,ao,as⟩:Addr).add (l*s))) (h1 - l) (m - l)) ?_ ?_
        ·simp only[execOp,Instr.sliceAt,Instr.slice,bP,dL hu,bR,hx',e1,e2,e3,b1,kg hs1,dB];split<;>rfl
        ·refine .aI hg ?_ (by show h1 - l<=m - l;omega) ?_
         ·split
          ·rfl
          ·simp only[Addr.add];split<;>rfl
         ·by_cases hml:m=l
          ·left;show m - l=0;omega
          ·right;rw[if_neg hml];rcases hoff with h0|⟨h0,hs0⟩
           ·omega
           ·subst h0 hs0;rw[addr_add];simp[lS]
      · -- grown
        rename_i i o k;cases hbk:Nat.beq (Nat.succ k) s with
        |false=>rw[hbk]at hr;cases hr
        |true=>
         rw[hbk]at hr;have hks:k+1=s:=nU hbk;simp only[cond_true,aA,bM]at hr;obtain⟨rfl,rfl⟩:=hr;obtain⟨g,a',c',hg,hx',ha1,ha2,hn,hcc,hoff,hkind⟩:=hx.lm;obtain⟨hsz,hpos,hl1,hl2,ha2⟩:g.sz=s/\0<g.sz/\o+cap*g.sz=g.len/\g.off+o+c'*g.sz=g.top/\a'.spot=none:=by
          rcases hkind with hk|hk
          ·have:=hk.1;simp at this
          ·have:=hk.1;simp at this;exact⟨by omega,hk.2.1,hk.2.2.1,hk.2.2.2⟩
         have b1:=EU (P:=P) (Cc:=true) hb hcc w;have hlen:=I7 hb hn;have Ja:c'=0\/a'.off=g.off+o:=hoff.imp id (·.1);clear hoff;obtain⟨ab,ao,as⟩:=a';simp only at ha1 ha2 Ja;subst ha1 ha2;have hrun:∀m',(Instr.sliceBounds true len c' (fD ρ lo) (fD ρ hi) (fD ρ mx)).run P w=.ok (l,h1,m') w->
          (execOp ρ' ⟨dst,.slice t x lo hi mx,type,pos,after,guard⟩).run P w=.ok (.value (.slice (some (if m'=l then(⟨g.b,ao,none⟩:Addr)else(⟨g.b,ao,none⟩:Addr).add (l*s))) (h1 - l) (m' - l))) w:=by
          intro m' hm';simp only[execOp,Instr.sliceAt,Instr.slice,bP,dL hu,bR,hx',e1,e2,e3,hm',kg hs1,dB];split<;>rfl
         cases hmx:mx with
         |some xx=>
          subst hmx;have hmm:(if(fD ρ (some xx)).isSome then m else c')=m:=rfl;rw[hmm]at b1;refine Good.same hW (hrun m b1) ?_;refine .aI hg ?_ (by show h1 - l<=m - l;omega) ?_
          ·split<;>simp[addr_add]
          ·by_cases hml:m=l
           ·left;show m - l=0;omega
           ·right;rw[if_neg hml,addr_add];rcases Ja with h0|h0
            ·omega
            ·have h0':ao=g.off+o:=h0;refine⟨?_,rfl⟩;show ao+l*s=g.off+(o+l*s)
             omega
         |none=>
          subst hmx;have hmm:(if(fD ρ (none:Option Operand)).isSome then m else c')=c':=rfl;rw[hmm]at b1;have WV:m=cap:=by
           obtain⟨_,q1,_⟩:=Cb hb;exact q1 rfl
          subst WV;refine Good.same hW (hrun c' b1) ?_;have WW:(some (Nat.succ k):Option Nat)=some g.sz:=by rw[hsz,<- hks]
          simp only[WW];have hlc:l*s+(m - l)*s=m*s:=by rw[<- kZ];congr 1;omega
          have aiW:l*s+(c' - l)*s=c'*s:=by rw[<- kZ];congr 1;omega
          refine .lV hg ?_ ?_ (by show h1 - l<=m - l;omega) hpos ?_ ?_ (by show m - l<=c' - l;omega) ?_
          ·split<;>simp[addr_add]
          ·split<;>simp[addr_add]
          ·show o+l*s+(m - l)*g.sz=g.len;rw[hsz]at hl1⊢;omega
          ·show g.off+(o+l*s)+(c' - l)*g.sz=g.top;rw[hsz]at hl2⊢;omega
          ·by_cases hml:c'=l
           ·left;omega
           ·right;rw[if_neg hml,addr_add];rcases Ja with h0|h0
            ·omega
            ·subst h0;simp[lS]
      ·cases hr
     ·cases hr
    ·cases hr
 ·cases hc
end
end Go.Ideal
namespace Go.Ideal
variable {P:Program} {β:az} {h:IH} {w:World}
theorem gW{α γ:Type}(s:Sem α)(f:α->Sem γ):dF P (s>>=f)=(dF P s).bind λa=>dF P (f a):=by
 show dF P (Sem.bind s f)=_;induction s with
 |pure a=>rfl
 |program k ih=>exact ih _
 |mark m k ih=>exact ih
 |_=>rfl
theorem Jb{kt:TypeId}{k:Value}(h:pJ P kt k=true)(b:Bool)(w:World):(Instr.checkKey b 10000 kt k).run P w=.ok () w:=by
 unfold pJ at h;simp only[eG]at h;obtain⟨_,h⟩:=h;split at h
 ·rename_i x y hx hy;cases b
  ·exact vW hy w
  ·exact vW hx w
 ·cases h
theorem Jc{kt:TypeId}{k:Value}(h:pJ P kt k=true):bY k=true:=by
 unfold pJ at h;simp only[eG]at h;exact h.1
inductive Ce(β:az):Option (Nat×Value)->Option (Nat×Value)->Prop
 |none:Ce β none none
 |some (i:Nat) {v v':Value} (h:VR β v v'):Ce β (some (i,v)) (some (i,v'))
theorem WX{kd:TypeDesc}{k:Value}{es es':List MapEntry}(he:dU β es es'):∀(i:Nat),
 (∀r,Instr.findNow kd k es i=some r->∃r',Instr.findNow kd k es' i=some r'/\Ce β r r')/\(Instr.findNow kd k es i=none->Instr.findNow kd k es' i=none):=by
 induction he with
 |nil=>intro i;exact⟨λr hr=>by simp only[Instr.findNow,aA]at hr;subst hr;exact⟨_,rfl,.none⟩,λhr=>by simp[Instr.findNow]at hr⟩
 | @cons e e' l l' hk hf hb hv hl ih=>
   intro i;simp only[Instr.findNow,hk];cases hs:Instr.sameNow kd k e.key with
   |none=>exact⟨λr hr=>(by cases hr),λ_=>rfl⟩
   |some b=>cases b with
    |true=>exact⟨λr hr=>by simp only[aA]at hr;subst hr;exact⟨_,rfl,.some i hv⟩,λhr=>by simp at hr⟩
    |false=>exact ih (i+1)
theorem WY{kt:TypeId}{k:Value}{es es':List MapEntry}(he:dU β es es')(w:World):∀(i:Nat) r,
 dF P (Instr.findAsking kt k es i)=some r->∃r',(Instr.findAsking kt k es' i).run P w=.ok r' w/\Ce β r r':=by
 induction he with
 |nil=>intro i r hr;simp only[Instr.findAsking]at hr;change some none=some r at hr;simp only[aA]at hr;subst hr;exact⟨none,rfl,.none⟩
 | @cons e e' l l' hk hf hb hv hl ih=>
   intro i r hr;simp only[Instr.findAsking,gW]at hr;cases hq:dF P (Op.equal kt k e.key)with
   |none=>rw[hq]at hr;cases hr
   |some b=>
    rw[hq]at hr;simp only[Instr.findAsking,hk,bP,vW hq w,bR];cases b with
    |true=>
     change some (some (i,e.val))=some r at hr
     simp only[aA]at hr;subst hr;exact⟨_,rfl,.some i hv⟩
    |false=>exact ih (i+1) r hr
theorem OC{kt:TypeId}{k:Value}{es es':List MapEntry}(he:dU β es es')(w:World){r:Option (Nat×Value)}(hr:qp P kt k es=some r):
 ∃r',(Instr.findKey kt k es').run P w=.ok r' w/\Ce β r r':=by
 unfold qp Instr.findKey at hr;rw[gW]at hr;cases hu:P.underlying kt with
 |none=>
  have:dF P (underlying kt)=none:=by simp[underlying,program,dF,hu,bind,Sem.bind,stuck]
  rw[this]at hr;cases hr
 |some d=>
  have:dF P (underlying kt)=some d:=by simp[underlying,program,dF,hu,bind,Sem.bind];rfl
  rw[this]at hr;simp only[iA]at hr;obtain⟨n1,n2⟩:=WX (β:=β) (kd:=d) (k:=k) he 0;simp only[Instr.findKey,bP,dL hu,bR];split at hr
  ·rename_i r1 hr1;change some r1=some r at hr
   simp only[aA]at hr;subst hr;obtain⟨r',h1,h2⟩:=n1 _ hr1;rw[h1];exact⟨r',rfl,h2⟩
  ·rename_i hr1;rw[n2 hr1];exact WY he w 0 r hr
theorem OD{m m':Value}{es:List MapEntry}(hW:WR P β h w)(hm:VR β m m')(he:entriesOf m h=some es):
 (m=.map none/\m'=.map none/\es=[])\/∃i g es' clock clock',m=.map (some i)/\h.get i=some (.map es clock)/\β i=some g/\m'=.map (some g.b)/\w.heap[g.b]? =some (.map es' clock')/\clock'=clock/\dU β es es'.toList:=by
 unfold entriesOf at he;split at he
 ·simp only[aA]at he;subst he;left;cases hm;exact⟨rfl,rfl,rfl⟩
 ·rename_i i;split at he
  ·rename_i es1 clock hg;simp only[aA]at he;subst he;obtain⟨g,hb,rfl⟩:=hm.zK;obtain⟨es',h1,h2⟩:=hW.obj i g _ hb hg;exact .inr ⟨i,g,es',clock,clock,rfl,hg,hb,rfl,h1,rfl,h2⟩
  ·cases he
 ·cases he
theorem dU.length{l l':List MapEntry}(he:dU β l l'):l'.length=l.length:=by
 induction he with
 |nil=>rfl
 |cons _ _ _ _ _ ih=>simp[ih]
theorem uH{b:Nat}{o:Obj}(h:w.heap[b]? =some o)(hn:∀c t f,o≠.cells c t f):(getObj b).run P w=.ok o w:=by
 simp only[getObj,Sem.run,h]
theorem Jd{b:Nat}{o o0:Obj}(h:w.heap[b]? =some o0)(hn:∀c t f,o0≠.cells c t f):(setObj b o).run P w=.ok () {w with heap:=w.heap.setIfInBounds b o}:=by
 simp only[setObj,Sem.run,h]
def Cf(ok:Bool)(z:Value):Option (Nat×Value)->Value
 |some (_,v)=>if ok then .tuple #[v,.bool true]else v
 |none=>if ok then .tuple #[z,.bool false]else z
theorem WZ{t kt et:TypeId}(hu:P.underlying t=some (.map kt et)){m k:Value}{es:Array MapEntry}(hm:(m=.map none/\es= #[])\/∃b clock,m=.map (some b)/\w.heap[b]? =some (.map es clock))
 (hck:(Instr.checkKey es.isEmpty 10000 kt k).run P w=.ok () w) {r:Option (Nat×Value)} (hf:(Instr.findKey kt k es.toList).run P w=.ok r w) {z:Value} (hz:zeroOf P et=some z) {ok:Bool}:
 (Instr.lookup t m k ok).run P w=.ok (Cf ok z r) w:=by
 rcases hm with⟨rfl,rfl⟩|⟨b,clock,rfl,hb⟩
 ·simp only[Instr.lookup,bP,dL hu,bR,dB,hck,hf];cases r with
  |none=>simp[zH hz,Cf]
  |some p=>simp[Cf]
 ·simp only[Instr.lookup,bP,dL hu,bR,dB,uH hb (by simp),hck,hf];cases r with
  |none=>simp[zH hz,Cf]
  |some p=>simp[Cf]
section
variable {dst:Option Tmp} {type:TypeId} {pos:String} {after:Array Edge} {guard:Option (Nat×Bool)} {c:ak} {ρ ρ':Operand->Value} {v:Value} {h':IH}
theorem W9{t:TypeId}{m k:Operand}{ok:Bool}(hc:cop P ⟨dst,.lookup t m k ok,type,pos,after,guard⟩=some c)(hr:c.run P ρ h=some (v,h'))(hm:VR β (ρ m) (ρ' m))(hk:VR β (ρ k) (ρ' k))(hW:WR P β h w):
 Good P β h w (execOp ρ' ⟨dst,.lookup t m k ok,type,pos,after,guard⟩) v h':=by
 simp only[cop]at hc;split at hc
 ·rename_i kt et hu;cases hz:zeroOf P et with
  |none=>simp[hz]at hc
  |some z=>
   simp only[hz,iT,aA]at hc;subst hc;obtain⟨_,_,_,Cg⟩:=zG hz;simp only[ak.run]at hr;split at hr
   ·rename_i u hl;simp only[aA,bM]at hr;obtain⟨rfl,rfl⟩:=hr;unfold zo at hl;split at hl
    ·cases hl
    ·rename_i es hes;cases hck:pJ P kt (ρ k)with
     |false=>rw[hck]at hl;cases hl
     |true=>
      rw[hck]at hl;simp only[cond_true]at hl;have hk':=hk.lg (Jc hck);cases hf:qp P kt (ρ k) es with
      |none=>rw[hf]at hl;cases hl
      |some r=>
       rw[hf]at hl;obtain⟨es',he1,he2⟩:∃es':Array MapEntry,((ρ' m=.map none/\es'= #[])\/∃b clock,ρ' m=.map (some b)/\w.heap[b]? =some (.map es' clock))/\dU β es es'.toList:=by
        rcases OD hW hm hes with⟨_,h2,h3⟩|⟨i,g,es',clock,clock',_,_,_,h4,h5,_,h6⟩
        ·subst h3;exact⟨#[],.inl ⟨h2,rfl⟩,.nil⟩
        ·exact⟨es',.inr ⟨_,_,h4,h5⟩,h6⟩
       obtain⟨r',f1,f2⟩:=OC he2 w hf;have hrun:=WZ (ok:=ok) hu he1 (Jb hck _ w) f1 hz;rw[<- hk']at hrun;cases f2 with
       |none=>
        simp only[aA]at hl;refine Good.same hW (uF hrun) ?_;subst hl;cases ok
        ·exact VR.free Cg
        ·exact .tuple (.cons (VR.free Cg) (.cons (.bool _) .nil))
       |some i hv=>
        simp only[aA]at hl;refine Good.same hW (uF hrun) ?_;subst hl;cases ok
        ·exact hv
        ·exact .tuple (.cons hv (.cons (.bool _) .nil))
   ·cases hr
 ·cases hc
end
end Go.Ideal
namespace Go.Ideal
variable {P:Program} {β:az} {h:IH} {w:World}
theorem dU.get{l l':List MapEntry}(he:dU β l l'){i:Nat}{e:MapEntry}(hi:l[i]? =some e):∃e',l'[i]? =some e'/\e'.key=e.key/\bY e.key=true/\e'.born=e.born/\VR β e.val e'.val:=by
 induction he generalizing i with
 |nil=>simp at hi
 |cons hk hf hb hv hl ih=>
  cases i with
  |zero=>simp at hi;subst hi;exact⟨_,by simp,hk,hf,hb,hv⟩
  |succ i=>simp at hi;obtain⟨e',h1,h2⟩:=ih hi;exact⟨e',by simpa using h1,h2⟩
theorem dU.modify{l l':List MapEntry}(he:dU β l l'){f f':MapEntry->MapEntry}(i:Nat)
 (Xa:∀e e',e'.key=e.key->bY e.key=true->e'.born=e.born->VR β e.val e'.val->(f' e').key=(f e).key/\bY (f e).key=true/\(f' e').born=(f e).born/\VR β (f e).val (f' e').val):
 dU β (l.modify i f) (l'.modify i f'):=by
 induction he generalizing i with
 |nil=>cases i<;>exact .nil
 |cons hk hf hb hv hl ih=>
  cases i with
  |zero=>obtain⟨a,b,c,d⟩:=Xa _ _ hk hf hb hv;exact .cons a b c d hl
  |succ i=>exact .cons hk hf hb hv (ih i)
theorem dU.push{l l':List MapEntry}(he:dU β l l'){e e':MapEntry}(h1:e'.key=e.key)(h2:bY e.key=true)(h3:e'.born=e.born)(h4:VR β e.val e'.val):dU β (l++[e]) (l'++[e']):=by
 induction he with
 |nil=>exact .cons h1 h2 h3 h4 .nil
 |cons hk hf hb hv hl ih=>exact .cons hk hf hb hv ih
theorem Ch{b:Nat}{o:Obj}(hb:b<w.heap.size):let w1:World:={w with heap:=w.heap.setIfInBounds b o}
 w1.heap.size=w.heap.size/\(∀x,x≠b->w1.heap[x]? =w.heap[x]?)/\w1.heap[b]? =some o:=by
 refine⟨by simp,λx hx=>?_,?_⟩
 ·show(w.heap.setIfInBounds b o)[x]? =_;rw[Ew (by omega)]
 ·show(w.heap.setIfInBounds b o)[b]? =_;simp[hb]
section
variable {dst:Option Tmp} {type:TypeId} {pos:String} {after:Array Edge} {guard:Option (Nat×Bool)} {c:ak} {ρ ρ':Operand->Value} {v:Value} {h':IH}
theorem OE{t kt et:TypeId}(hu:P.underlying t=some (.map kt et)){b clock:Nat}{es:Array MapEntry}{k x:Value}(hb:w.heap[b]? =some (.map es clock))
 (hck:(Instr.checkKey false 10000 kt k).run P w=.ok () w) {r:Option (Nat×Value)} (hf:(Instr.findKey kt k es.toList).run P w=.ok r w)
 (hs:∀i v,r=some (i,v)->∃e,es[i]? =some e/\Instr.sameBits 10000 e.key k=true):
 (Instr.mapUpdate t (.map (some b)) k x).run P w=.ok () {w with heap:=w.heap.setIfInBounds b (match r with
   |some (i,_)=>.map (es.modify i λe=>{e with key:=k,val:=x}) clock
   |none=>.map (es.push {key:=k,val:=x,born:=clock}) (clock+1))}:=by
 simp only[Instr.mapUpdate,bP,dL hu,bR,uH hb (by simp),hck,hf];cases r with
 |none=>exact Jd hb (by simp)
 |some p=>
  obtain⟨i,v⟩:=p;obtain⟨e,h1,h2⟩:=hs i v rfl;simp only[h1,iT,Ij,Instr.keyThatStays,h2,if_true,bP,dB,bR];exact Jd hb (by simp)
theorem OG{t kt et:TypeId}(hu:P.underlying t=some (.map kt et)){m m' k k' x x':Value}{h2:IH}(hr:BB P kt m k x h=some h2)(hm:VR β m m')(hk:VR β k k')(hx:VR β x x')(hW:WR P β h w):
 ∃w',(Instr.mapUpdate t m' k' x').run P w=.ok () w'/\WR P β h2 w'/\Eff β h w β h2 w':=by
 unfold BB at hr;split at hr
 ·rename_i i;split at hr
  ·rename_i es clock hg;obtain⟨g,hb,rfl⟩:=hm.zK;obtain⟨es',o1,o2⟩:=hW.obj i g _ hb hg;cases hck:pJ P kt k with
   |false=>rw[hck]at hr;cases hr
   |true=>
    rw[hck]at hr;simp only[cond_true]at hr;have hk':=hk.lg (Jc hck);subst hk';have hfree:=Jc hck;have hlt:g.b<w.heap.size:=by
     rcases oZ g.b w.heap.size with hh|hh
     ·exact hh
     ·rw[o8 hh]at o1;cases o1
    cases hf:qp P kt k' es with
    |none=>rw[hf]at hr;cases hr
    |some r=>
     rw[hf]at hr;obtain⟨r',f1,f2⟩:=OC o2 w hf;cases f2 with
     |none=>
      simp only[aA]at hr;subst hr;have hrun:=OE (x:=x') hu o1 (Jb hck false w) f1 (by simp);obtain⟨p1,p2,p3⟩:=Ch (w:=w) (o:=.map (es'.push {key:=k',val:=x',born:=clock}) (clock+1)) hlt;refine⟨_,hrun,hW.write hb hg _ p1 p2 rfl rfl rfl (aH _) ⟨_,p3,?_⟩⟩;rw[gV,Array.toList_push];exact o2.push rfl hfree rfl hx
     |some j hv=>
      simp only at hr;split at hr
      ·rename_i e he;rw[om]at he;obtain⟨e',q1,q2,q3,q4,q5⟩:=o2.get he;cases hs:Instr.sameBits 10000 e.key k' with
       |false=>rw[hs]at hr;cases hr
       |true=>
        rw[hs]at hr;simp only[cond_true,aA]at hr;subst hr;have hrun:=OE (x:=x') hu o1 (Jb hck false w) f1 (λi v OH=>by
         simp only[aA,bM]at OH;obtain⟨rfl,_⟩:=OH;exact⟨e',by simpa using q1,by rw[q2];exact hs⟩)
        obtain⟨p1,p2,p3⟩:=Ch (w:=w) (o:=.map (es'.modify j λe=>{e with key:=k',val:=x'}) clock) hlt;refine⟨_,hrun,hW.write hb hg _ p1 p2 rfl rfl rfl (aH _) ⟨_,p3,?_⟩⟩;rw[Od,Array.toList_modify];exact o2.modify j λe e' a b c d=>⟨rfl,hfree,c,hx⟩
      ·cases hr
  ·cases hr
 ·cases hr
theorem Xb{t:TypeId}{m k x:Operand}(hc:cop P ⟨dst,.mapUpdate t m k x,type,pos,after,guard⟩=some c)(hr:c.run P ρ h=some (v,h'))(hm:VR β (ρ m) (ρ' m))(hk:VR β (ρ k) (ρ' k))(hx:VR β (ρ x) (ρ' x))(hW:WR P β h w):
 Good P β h w (execOp ρ' ⟨dst,.mapUpdate t m k x,type,pos,after,guard⟩) v h':=by
 simp only[cop]at hc;split at hc
 ·rename_i kt et hu;cases hc;simp only[ak.run]at hr;split at hr
  ·rename_i h2 hh;simp only[aA,bM]at hr;obtain⟨rfl,rfl⟩:=hr;obtain⟨w',r1,r2,r3⟩:=OG hu hh hm hk hx hW;exact⟨.skip,w',β,undef,Oo r1,.inr ⟨rfl,rfl⟩,.bU _,r2,r3⟩
  ·cases hr
 ·cases hc
theorem Xc{t:TypeId}{m k x:Operand}(hc:cop P ⟨dst,.insert t m k x,type,pos,after,guard⟩=some c)(hr:c.run P ρ h=some (v,h'))(hm:VR β (ρ m) (ρ' m))(hk:VR β (ρ k) (ρ' k))(hx:VR β (ρ x) (ρ' x))(hW:WR P β h w):
 Good P β h w (execOp ρ' ⟨dst,.insert t m k x,type,pos,after,guard⟩) v h':=by
 simp only[cop]at hc;split at hc
 ·rename_i kt et hu;cases hc;simp only[ak.run]at hr;split at hr
  ·rename_i h2 hh;simp only[aA,bM]at hr;obtain⟨rfl,rfl⟩:=hr;obtain⟨w',r1,r2,r3⟩:=OG hu hh hm hk hx hW;exact⟨.skip,w',β,undef,Oo r1,.inr ⟨rfl,rfl⟩,.bU _,r2,r3⟩
  ·cases hr
 ·cases hc
theorem Je(hW:WR P β h w){s:Sem Next}{ob:bB}{o':Obj}(hr:s.run P w=.ok (.value (.pointer (some ⟨w.heap.size,0,none⟩))) {w with heap:=w.heap.push o'})
 (ho:∀β':az,β.le β'->OR P β' ⟨w.heap.size,0,0,0,0⟩ {w with heap:=w.heap.push o'} ob):Good P β h w s (.pointer (some ⟨h.next,0,none⟩)) (h.new ob):=by
 refine ry.good (f:=λi=>.pointer (some ⟨i,0,none⟩)) hW ⟨_,o',⟨w.heap.size,0,0,0,0⟩,hr,rfl,λi β' hle hi=>⟨?_,ho β' hle⟩⟩;have:=VR.ptr (β:=β') (o:=0) hi;exact this
theorem Xd{t:TypeId}{x:Operand}(hc:cop P ⟨dst,.range t x,type,pos,after,guard⟩=some c)(hr:c.run P ρ h=some (v,h'))(hx:VR β (ρ x) (ρ' x))(hW:WR P β h w):
 Good P β h w (execOp ρ' ⟨dst,.range t x,type,pos,after,guard⟩) v h':=by
 simp only[cop]at hc;split at hc
 ·rename_i hu;cases hc;simp only[ak.run]at hr;split at hr
  ·rename_i s hs;simp only[aA,bM]at hr;obtain⟨rfl,rfl⟩:=hr;rw[hs]at hx;have hx':=hx.vY;refine Je hW (o':=.stringIter s 0) ?_ λβ' _=>⟨by simp,rfl⟩
   simp[execOp,Instr.range,dL hu,hx']
  ·cases hr
 ·rename_i kt et hu;cases hc;simp only[ak.run]at hr;split at hr
  ·rename_i hs;simp only[aA,bM]at hr;obtain⟨rfl,rfl⟩:=hr;rw[hs]at hx;have hx':ρ' x=.map none:=by generalize ρ' x=y at hx;cases hx;rfl
   refine Je hW (o':=.mapIter none 0 #[] 0) ?_ λβ' _=>⟨none, #[],by simp,rfl,.uD,rfl⟩
   simp[execOp,Instr.range,dL hu,hx']
  ·rename_i m hs;split at hr
   ·rename_i es clock hg;simp only[aA,bM]at hr;obtain⟨rfl,rfl⟩:=hr;rw[hs]at hx;obtain⟨g,hb,hx'⟩:=hx.zK;obtain⟨es',o1,o2⟩:=hW.obj m g _ hb hg;refine Je hW (o':=.mapIter (some g.b) clock #[] clock) ?_ λβ' hle=>⟨some g.b, #[],by simp,rfl,.map (hle _ _ hb),rfl⟩
    simp only[execOp,Instr.range,bP,dL hu,bR,hx',uH o1 (by simp),dB,run_newObj]
   ·cases hr
  ·cases hr
 ·cases hc
theorem find_born{l l':List MapEntry}(he:dU β l l')(n:Nat):match l.find? (λe=>Nat.beq e.born n)with
 |none=>l'.find? (λe=>e.born==n)=none
 |some e=>∃e',l'.find? (λe=>e.born==n)=some e'/\e'.key=e.key/\bY e.key=true/\VR β e.val e'.val:=by
 induction he with
 |nil=>rfl
 | @cons e e' l l' hk hf hb hv hl ih=>
   simp only[List.find?_cons,hb];cases hq:Nat.beq e.born n with
   |true=>
    have:(e.born==n)=true:=by simp[nU hq]
    simp only[this];exact⟨e',rfl,hk,hf,hv⟩
   |false=>
    have:(e.born==n)=false:=by simp[Bh hq]
    simp only[this];exact ih
theorem Xe{x:Operand}(hc:cop P ⟨dst,.entry x,type,pos,after,guard⟩=some c)(hr:c.run P ρ h=some (v,h'))(hx:VR β (ρ x) (ρ' x))(hW:WR P β h w):
 Good P β h w (execOp ρ' ⟨dst,.entry x,type,pos,after,guard⟩) v h':=by
 simp only[cop,aA]at hc;subst hc;simp only[ak.run]at hr;split at hr
 ·rename_i r hs;split at hr
  ·rename_i m since seen stepped hg;split at hr
   ·rename_i es clock hgm;split at hr
    ·rename_i stamp hst;cases hbq:Nat.beq clock stepped with
     |false=>rw[hbq]at hr;cases hr
     |true=>
      rw[hbq]at hr;simp only[cond_true]at hr;split at hr
      ·rename_i e he;simp only[aA,bM]at hr;obtain⟨rfl,rfl⟩:=hr;rw[hs]at hx;obtain⟨g,hb,hx'⟩:=hx.rz;obtain⟨m',seen',o1,o2,o3,o4⟩:=hW.obj r g _ hb hg;rw[o4]at hx';obtain⟨gm,Jf,hm'⟩:∃gm,β m=some gm/\m'=some gm.b:=by
        obtain⟨gm,a,b⟩:=o3.zK;exact⟨gm,a,by simpa using b⟩
       subst hm';obtain⟨es',p1,p2⟩:=hW.obj m gm _ Jf hgm;have OI:=find_born p2 stamp;rw[he]at OI;obtain⟨e',q1,q2,q3,q4⟩:=OI;have hback:seen'.back? =some stamp:=by
        rw[<- Array.getLast?_toList,o2];exact hst
       have hcl:(clock !=stepped)=false:=by simp[nU hbq]
       have hfa:es'.find? (λe=>e.born==stamp)=some e':=by rw[<- Array.find?_toList];exact q1
       refine Good.same hW (v':=.tuple #[e'.key,e'.val]) ?_ (.tuple (.cons ?_ (.cons q4 .nil)))
       ·simp only[execOp,Instr.entry,nV,bP,hx',uH o1 (by simp),uH p1 (by simp),bR,hback,hcl,hfa,dB,um,if_false]
       ·rw[q2];exact VR.free q3
      ·cases hr
    ·cases hr
   ·cases hr
  ·cases hr
 ·cases hr
theorem Xf{x:Operand}{xt t:TypeId}{ok:Bool}(hc:cop P ⟨dst,.typeAssert x xt t ok,type,pos,after,guard⟩=some c)(hr:c.run P ρ h=some (v,h'))(hx:VR β (ρ x) (ρ' x))(hW:WR P β h w):
 Good P β h w (execOp ρ' ⟨dst,.typeAssert x xt t ok,type,pos,after,guard⟩) v h':=by
 simp only[cop]at hc;split at hc
 ·cases hc
 ·rename_i d hni hu;cases hz:zeroOf P t with
  |none=>simp[hz]at hc
  |some z=>
   simp only[hz,iT,aA]at hc;subst hc;obtain⟨_,_,_,Cg⟩:=zG hz;simp only[ak.run]at hr;split at hr
   ·rename_i hs;rw[hs]at hx;have hx':ρ' x=.nilIface:=by generalize ρ' x=y at hx;cases hx;rfl
    cases ok with
    |false=>cases hr
    |true=>
     simp only[cond_true,aA,bM]at hr;obtain⟨rfl,rfl⟩:=hr;refine Good.same hW (v':=.tuple #[z,.bool false]) ?_ (.tuple (.cons (VR.free Cg) (.cons (.bool _) .nil)));simp only[execOp,Instr.typeAssert,bP,dL hu,bR,hx',if_true,zH hz,dB]
   ·rename_i u y hs;rw[hs]at hx;obtain⟨y',hy,hx'⟩:=hx.xQ;cases hbq:Nat.beq u t with
    |true=>
     have hut:u=t:=nU hbq;rw[hbq]at hr;simp only[cond_true,aA,bM]at hr;obtain⟨rfl,rfl⟩:=hr;refine Good.same hW (v':=if ok then .tuple #[y',.bool true]else y') ?_ ?_
     ·simp only[execOp,Instr.typeAssert,bP,dL hu,bR,hx',hut];cases d<;>first|exact absurd rfl (hni _)|simp
     ·cases ok
      ·exact hy
      ·exact .tuple (.cons hy (.cons (.bool _) .nil))
    |false=>
     have hut:u≠t:=Bh hbq;rw[hbq]at hr;cases ok with
     |false=>cases hr
     |true=>
      simp only[cond_true,cond_false,aA,bM]at hr;obtain⟨rfl,rfl⟩:=hr;refine Good.same hW (v':=.tuple #[z,.bool false]) ?_ (.tuple (.cons (VR.free Cg) (.cons (.bool _) .nil)));simp only[execOp,Instr.typeAssert,bP,dL hu,bR,hx'];cases d<;>first|exact absurd rfl (hni _)|simp[hut,zH hz]
   ·cases hr
 ·cases hc
end
