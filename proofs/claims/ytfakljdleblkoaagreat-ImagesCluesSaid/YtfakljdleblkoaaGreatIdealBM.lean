/-
  The ideal machine, 7: the operations, one by one.
-/
import Derived.Test.YtfakljdleblkoaaGreatIdealAM
import Derived.IntWalk
import Derived.Laws.Append
set_option linter.all false
namespace Go.Ideal
variable {P:Program} {β:aG} {h:IH} {w:World}
theorem VR.Ht{b:Bool}{v:Value}(h:VR β (.bool b) v):v=.bool b:=by cases h;rfl
theorem VR.mq{k:IntKind}{n:Int}{v:Value}(h:VR β (.int k n) v):v=.int k n:=by cases h;rfl
theorem VR.AQ{s:ByteArray}{v:Value}(h:VR β (.string s) v):v=.string s:=by cases h;rfl
theorem VR.uN{i o:Nat}{v:Value}(h:VR β (.pointer (some ⟨i,o,none⟩)) v):∃g,β i=some g/\v=.pointer (some ⟨g.b,g.off+o,none⟩):=by
 cases h with|ptr hi=>exact⟨_,hi,rfl⟩
theorem VR.CB{i:Nat}{v:Value}(h:VR β (.map (some i)) v):∃g,β i=some g/\v=.map (some g.b):=by
 cases h with|map hi=>exact⟨_,hi,rfl⟩
theorem VR.AU{t:TypeId}{u v:Value}(h:VR β (.iface t u) v):∃u',VR β u u'/\v=.iface t u':=by
 cases h with|iface t hi=>exact⟨_,hi,rfl⟩
theorem VR.Mr{l:List Value}{v:Value}(h:VR β (.agg ⟨l⟩) v):∃l',aS β l l'/\l.all Ideal.cellV=true/\v=.agg ⟨l'⟩:=by
 cases h with|agg hc hl=>exact⟨_,hl,hc,rfl⟩
theorem VR.zg{fn:Fn}{f c:List Value}{v:Value}(h:VR β (.func fn ⟨f⟩ ⟨c⟩) v):∃fn' f' c',FR β fn fn'/\aS β f f'/\aS β c c'/\v=.func fn' ⟨f'⟩ ⟨c'⟩:=by
 cases h with|func h1 h2 h3=>exact⟨_,_,_,h1,h2,h3,rfl⟩
theorem VR.ni{i o:Nat}{f:Option Nat}{n c:Nat}{v:Value}(h:VR β (.slice (some ⟨i,o,f⟩) n c) v):
 ∃g a c',β i=some g/\v=.slice (some a) n c'/\a.block=g.b/\True/\n<=c/\c<=c'/\(c'=0\/(a.off=g.off+o/\a.spot=none))/\
  ((f=some 0/\c'=c)\/(f=some g.sz/\0<g.sz/\o+c*g.sz=g.len/\(g.off+o+c'*g.sz=g.top/\a.spot=none))):=by
 cases h with
 |aB hi hb hn ha=>exact⟨_,_,_,hi,rfl,hb,trivial,hn,bB _,ha,.inl ⟨rfl,rfl⟩⟩
 |qb hi hb hs hn hz hl ht hc ha=>exact⟨_,_,_,hi,rfl,hb,trivial,hn,hc,ha.imp id (λe=>⟨e,hs⟩),.inr ⟨rfl,hz,hl,ht,hs⟩⟩
theorem aS.of_map{γ:Type}{f f':γ->Value}{l:List γ}(h:∀x∈l,VR β (f x) (f' x)):aS β (lS f l) (l.map f'):=by
 rw[vZ];exact aS.map l h
theorem ZO(ρ:Operand->Value)(zero:List Value):rG ρ zero []=some zero:=rfl
theorem Ms(ρ:Operand->Value)(zero:List Value)(off size:Nat)(x:Operand)(ps:List (Nat×Nat×Operand)):
 rG ρ zero ((off,size,x)::ps)=match cellsOf (ρ x)with
  |none=>none
  |some vs=>if iG vs=size then(match jq zero off vs with
   |some cs=>rG ρ cs ps
   |none=>none)else none:=by
 show(match cellsOf (ρ x)with
  |none=>none
  |some vs=>cond (Nat.beq (iG vs) size) (match jq zero off vs with
   |some cs=>rG ρ cs ps
   |none=>none) none)=_
 cases cellsOf (ρ x)with
 |none=>rfl
 |some vs=>
  show cond (Nat.beq (iG vs) size) _ none=if iG vs=size then _ else none
  cases hb:Nat.beq (iG vs) size with
  |true=>rw[if_pos (qC hb)];rfl
  |false=>rw[if_neg (Ej hb)];rfl
theorem foldl_set(off:Nat):∀(l:List Value) (k:Nat) (A:Array Value),
 ((l.zipIdx k).foldl (λcs (x:Value×Nat)=>cs.setIfInBounds (off+x.2) x.1) A).size=A.size/\
 ∀j,((l.zipIdx k).foldl (λcs (x:Value×Nat)=>cs.setIfInBounds (off+x.2) x.1) A)[j]? =if off+k<=j/\j<off+k+l.length/\j<A.size then l[j - (off+k)]? else A[j]?:=by
 intro l;induction l with
 |nil=>intro k A;refine⟨rfl,λj=>?_⟩;rw[if_neg (by simp;omega)];rfl
 |cons x l ih=>
  intro k A;simp only[LG,sN];obtain⟨h1,h2⟩:=ih (k+1) (A.setIfInBounds (off+k) x);refine⟨by rw[h1];simp,λj=>?_⟩;rw[h2];simp only[Array.size_setIfInBounds,lN];by_cases hc:off+(k+1)<=j/\j<off+(k+1)+l.length/\j<A.size
  ·rw[if_pos hc,if_pos (by omega)];rw[show j - (off+k)=(j - (off+(k+1)))+1 by omega,rC]
  ·rw[if_neg hc];by_cases hj:j=off+k
   ·subst hj;by_cases hs:off+k<A.size
    ·rw[if_pos (by omega)];simp[hs]
    ·rw[if_neg (by omega),sM (by simp;omega),sM (by omega)]
   ·rw[if_neg (by omega)];rw[GI (by omega)]
inductive F2{γ δ:Type}(R:γ->δ->Prop):List γ->List δ->Prop
 |nil:F2 R [] []
 |cons {a:γ} {b:δ} {l:List γ} {r:List δ} (h:R a b) (hl:F2 R l r):F2 R (a::l) (b::r)
theorem Mt{place:Nat->Option (Nat×Nat)}{ρ ρ':Operand->Value}:∀(parts:List (Nat×Operand)) (pc:List (Nat×Nat×Operand)) (zs zs' cs:List Value),
 F2 (λ(p:Nat×Operand) (q:Nat×Nat×Operand)=>q.2.2=p.2/\place p.1=some (q.1,q.2.1)) parts pc->aS β zs zs'->zs.all Ideal.cellV=true->
 rG ρ zs pc=some cs->(∀p∈parts,VR β (ρ p.2) (ρ' p.2))->∃cs',Instr.fill place ⟨zs'⟩ (parts.map λp=>(p.1,ρ' p.2))=some ⟨cs'⟩/\aS β cs cs'/\cs.all Ideal.cellV=true/\cs.length=zs.length:=by
 intro parts;induction parts with
 |nil=>
  intro pc zs zs' cs hf hz hc hr _;cases hf;rw[ZO]at hr;cases hr;exact⟨zs',rfl,hz,hc,rfl⟩
 |cons p parts ih=>
  intro pc zs zs' cs hf hz hc hr hρ;obtain⟨i,x⟩:=p;cases hf with
  | @cons _ q _ pc hq hf=>
    obtain⟨off,size,y⟩:=q;obtain⟨hy,hpl⟩:=hq;simp only at hy hpl;subst hy;rw[Ms]at hr;split at hr
    ·cases hr
    ·rename_i vs hvs;split at hr
     ·rename_i hsz;split at hr
      ·rename_i cs1 hl;obtain⟨Sm,vs',hv1,hv2⟩:=(hρ (i,y) (by simp)).cells hvs;obtain⟨l1,l2,l3⟩:=EH hl;rw[wh]at hsz;have hlen:=hv2.length;have hzl:=hz.length;have Hu:=foldl_set off vs' 0 ⟨zs'⟩
       -- the array behind the part
       have hA:∃EK,((vs'.zipIdx 0).foldl (λcs (x:Value×Nat)=>cs.setIfInBounds (off+x.2) x.1) (⟨zs'⟩:Array Value))=⟨EK⟩/\aS β cs1 EK:=by
        refine⟨_,rfl,aS.Mm ?_ ?_⟩
        ·have:=Hu.1;simp only[Array.size]at this;rw[this,hzl,l2]
        ·intro j v hj;have hg:=Hu.2 j;simp only[Af]at hg;rw[l3]at hj;have hjl:j<zs'.length:=by
          rw[hzl,<- l2];rcases rD j cs1.length with hh|hh
          ·exact hh
          ·have:=l3 j;rw[fu hh]at this;rw[<- this]at hj;cases hj
         split at hj
         ·rename_i hr2;obtain⟨v',h1,h2⟩:=hv2.get hj;refine⟨v',?_,h2⟩;rw[<- wV]at hg;rw[hg,if_pos (by simp;omega)];exact h1
         ·rename_i hr2;obtain⟨v',h1,h2⟩:=hz.get hj;refine⟨v',?_,h2⟩;rw[<- wV]at hg;rw[hg,if_neg (by simp;omega)];simpa using h1
       obtain⟨EK,hA1,hA2⟩:=hA;have hc1:cs1.all Ideal.cellV=true:=by
        rw[iV]at hc Sm⊢;intro z Mv;obtain⟨j,hj⟩:=jm Mv;rw[l3]at hj;split at hj
        ·exact Sm z (aR hj)
        ·exact hc z (aR hj)
       obtain⟨cs',r1,r2,r3,r4⟩:=ih pc cs1 EK cs hf hA2 hc1 hr λp hp=>hρ p (by simp[hp]);refine⟨cs',?_,r2,r3,by omega⟩;simp only[fI,Instr.fill,hpl];rw[if_neg (by simp only[hv1,Array.size,wW,BX,not_or];omega)];have hz0:(ρ' y).cells.zipIdx=(⟨vs'.zipIdx 0⟩:Array (Value×Nat)):=by rw[hv1];simp
       rw[hz0];have hfl:Array.foldl (λcs (x:Value×Nat)=>match x with|(c,j)=>cs.setIfInBounds (off+j) c) (⟨zs'⟩:Array Value) (⟨vs'.zipIdx 0⟩:Array (Value×Nat))=⟨EK⟩:=by
        rw[<- hA1,<- Rn]
       rw[hfl];exact r1
      ·cases hr
     ·cases hr
end Go.Ideal
namespace Go.Ideal
variable {P:Program} {β:aG} {h:IH} {w:World}
theorem xB{s:Sem Value}{v:Value}{w w':World}(h:s.run P w=.ok v w'):(do pure (.value (<- s)):Sem Next).run P w=.ok (.value v) w':=by simp[h]
theorem Sn{s:Sem Unit}{w w':World}(h:s.run P w=.ok () w'):(do s;pure .skip:Sem Next).run P w=.ok .skip w':=by simp[h]
theorem Sq{s:Sem Next}{cs cs':List Value}{t:TypeId}(hcs:aS β cs cs')(hc:cs.all cellV=true)
 (hr:s.run P w=.ok (.value (.pointer (some ⟨w.heap.size,0,none⟩))) {w with heap:=w.heap.push (.cells ⟨cs'⟩ t)}):
 uM P β w s (λi=>.pointer (some ⟨i,0,none⟩)) (.cells cs):=by
 refine⟨_,_,⟨w.heap.size,0,cs.length,cs.length+0,0⟩,hr,rfl,λi β' hle hi=>⟨?_,?_⟩⟩
 ·have:=VR.ptr (β:=β') (o:=0) hi;exact this
 ·have:=OR.Hr (P:=P) (w:=w) t (hcs.mono hle) hc [] 0;simpa using this
theorem Sr{s:Sem Next}{cs cs':List Value}{t:TypeId}{n c:Nat}(hn:n<=c)(hcs:aS β cs cs')(hc:cs.all cellV=true)
 (hr:s.run P w=.ok (.value (.slice (some ⟨w.heap.size,0,none⟩) n c)) {w with heap:=w.heap.push (.cells ⟨cs'⟩ t)}):
 uM P β w s (λi=>.slice (xk i 0) n c) (.cells cs):=by
 refine⟨_,_,⟨w.heap.size,0,cs.length,cs.length+0,0⟩,hr,rfl,λi β' hle hi=>⟨?_,?_⟩⟩
 ·exact VR.aB hi rfl hn (.inr ⟨rfl,rfl⟩)
 ·have:=OR.Hr (P:=P) (w:=w) t (hcs.mono hle) hc [] 0;simpa using this
theorem zh{t:TypeId}{cs:List Value}(h:vX P t=some cs):
 ∃z i,P.info? t=some i/\i.zero=some z/\z.cells=⟨cs⟩/\gX cs=true/\jC P t=some cs.length:=by
 unfold vX at h;split at h
 ·rename_i z n hz hn;split at h
  ·rename_i hh;cases h;obtain⟨i,h1,h2,h3⟩:=Cw hz;exact⟨z,i,h1,h2,rfl,hh.2,by rw[hh.1];exact hn⟩
  ·cases h
 ·cases h
theorem Su(f:Nat->Value):Array.map f (Array.range 0)= #[]:=Zu (by simp)
theorem ZP{e:TypeId}{dst:Option Tmp}{type:TypeId}{pos:String}{after:Array Edge}{guard:Option (Nat×Bool)}{c:aF}{ρ ρ':Operand->Value}{f:Nat->Value}{ob:dJ}
 (hc:cop P ⟨dst,.alloc e,type,pos,after,guard⟩=some c) (ha:c.alloc ρ=some (f,ob)):uM P β w (execOp ρ' ⟨dst,.alloc e,type,pos,after,guard⟩) f ob:=by
 simp only[cop]at hc;split at hc
 ·rename_i cs hz;cases hc;simp only[aF.alloc]at ha;cases ha;obtain⟨z,i,h1,h2,h3,h4,_⟩:=zh hz;refine Sq (t:=e) (aS.free h4) (uL h4) ?_;simp[execOp,Instr.alloc,zeroValue,typeInfo,h1,h2,newVar,newRow,h3]
 ·cases hc
theorem ZQ{e:TypeId}{x:Operand}{dst:Option Tmp}{type:TypeId}{pos:String}{after:Array Edge}{guard:Option (Nat×Bool)}{c:aF}{ρ ρ':Operand->Value}{f:Nat->Value}{ob:dJ}
 (hc:cop P ⟨dst,.box e x,type,pos,after,guard⟩=some c) (ha:c.alloc ρ=some (f,ob)) (hx:VR β (ρ x) (ρ' x)):uM P β w (execOp ρ' ⟨dst,.box e x,type,pos,after,guard⟩) f ob:=by
 simp only[cop,aH]at hc;subst hc;simp only[aF.alloc]at ha;split at ha
 ·rename_i cs hcs;cases ha;obtain⟨h1,cs',h2,h3⟩:=hx.cells hcs;refine Sq (t:=e) h3 h1 ?_;simp[execOp,Instr.box,newVar,newRow,h2]
 ·cases ha
theorem ZR{t:TypeId}{r:Option Operand}{dst:Option Tmp}{type:TypeId}{pos:String}{after:Array Edge}{guard:Option (Nat×Bool)}{c:aF}{ρ ρ':Operand->Value}{f:Nat->Value}{ob:dJ}
 (hc:cop P ⟨dst,.makeMap t r,type,pos,after,guard⟩=some c) (ha:c.alloc ρ=some (f,ob)):uM P β w (execOp ρ' ⟨dst,.makeMap t r,type,pos,after,guard⟩) f ob:=by
 cases r with
 |some r=>simp[cop]at hc
 |none=>
  simp only[cop,aH]at hc;subst hc;simp only[aF.alloc]at ha;cases ha;refine⟨.map (some w.heap.size),.map #[] 0,⟨w.heap.size,0,0,0,0⟩,?_,rfl,λi β' hle hi=>⟨?_,?_⟩⟩
  ·simp[execOp,Instr.makeMap]
  ·have:=VR.map (β:=β') hi;exact this
  ·exact⟨#[],by simp,.nil⟩
theorem ZT(z:List Value)(n:Nat)(hz:z≠[]):∀j,(zeros z n)[j]? =if j<n*z.length then z[j%z.length]? else none:=by
 induction n with
 |zero=>intro j;show([]:List Value)[j]? =_;simp
 |succ n ih=>
  intro j;have hpos:0<z.length:=BZ.2 hz;show(kz z (zeros z n))[j]? =_;rw[jE];by_cases hj:j<z.length
  ·rw[ol hj,if_pos (by rw[Nat.succ_mul];omega),Nat.mod_eq_of_lt hj]
  ·rw[mU (by omega),ih];have:(j - z.length)%z.length=j%z.length:=by
    rw[<- Nat.mod_eq_sub_mod (by omega)]
   rw[this];by_cases hl:j<(n+1)*z.length
   ·rw[if_pos hl,if_pos (by rw[Nat.succ_mul]at hl;omega)]
   ·rw[if_neg hl,if_neg (by rw[Nat.succ_mul]at hl;omega)]
theorem zi{z:List Value}(hz:gX z=true)(n:Nat):gX (zeros z n)=true:=by
 have happ:∀(a b:List Value),gX a=true->gX b=true->gX (a++b)=true:=by
  intro a b ha hb;induction a with
  |nil=>exact hb
  |cons x a ih=>simp[gX]at ha⊢;exact⟨ha.1,ih ha.2⟩
 induction n with
 |zero=>rfl
 |succ n ih=>show gX (kz z (zeros z n))=true;rw[jE];exact happ _ _ hz ih
theorem Hw(z:List Value)(n:Nat)(hz:z≠[]):(Array.range (n*z.length)).map (λj=>(⟨z⟩:Array Value)[j%(⟨z⟩:Array Value).size]!)=⟨zeros z n⟩:=by
 have hpos:0<z.length:=BZ.2 hz;apply Array.ext';apply iF;intro j;show _=(zeros z n)[j]?;rw[ZT z n hz];simp only[LH,Array.toList_range,dR];by_cases hj:j<n*z.length
 ·rw[if_pos hj,uD hj];have hm:j%z.length<z.length:=Ag _ hpos;simp[hm]
 ·rw[if_neg hj,fu (by simp;omega)];rfl
theorem tH{t:TypeId}{n:Nat}(h:mZ P t=some n):jC P t=some n/\0<n:=by
 unfold mZ at h;split at h
 ·cases h
 ·rename_i h2;refine⟨h,?_⟩;rcases GJ n with h0|h0
  ·subst h0;exact absurd h h2
  ·exact h0
theorem ZU{t:TypeId}{l k:Operand}{dst:Option Tmp}{type:TypeId}{pos:String}{after:Array Edge}{guard:Option (Nat×Bool)}{c:aF}{ρ ρ':Operand->Value}{f:Nat->Value}{ob:dJ}
 (hc:cop P ⟨dst,.makeSlice t l k,type,pos,after,guard⟩=some c) (ha:c.alloc ρ=some (f,ob)) (hl:VR β (ρ l) (ρ' l)) (hk:VR β (ρ k) (ρ' k)):
 uM P β w (execOp ρ' ⟨dst,.makeSlice t l k,type,pos,after,guard⟩) f ob:=by
 simp only[cop]at hc;split at hc
 ·rename_i e hu;split at hc
  ·rename_i s z hs hz;cases hc;simp only[aF.alloc]at ha;obtain⟨zv,i,h1,h2,h3,h4,h5⟩:=zh hz;obtain⟨hs1,hs2⟩:=tH hs;rw[h5]at hs1;have hzl:z.length=s:=by simpa using hs1
   split at ha
   ·rename_i ln cn hln hcn;rw[hln]at hl;rw[hcn]at hk;have hl':=hl.mq;have hk':=hk.mq;simp only[h1,jZ,Option.get!_some]at ha;cases hcond:(ln.ble cn&&(cn.mul i.bytes).ble small&&(cn.mul s).ble small&&cn.ble small)with
    |false=>rw[hcond]at ha;cases ha
    |true=>
     rw[hcond]at ha;simp only[cond_true,aH,dA]at ha;obtain⟨rfl,rfl⟩:=ha;simp only[eU]at hcond;obtain⟨⟨⟨c1,c2⟩,c3⟩,c4⟩:=hcond;have c1:=mJ c1;have c2:=mJ c2;have c4:=mJ c4;unfold small at c2 c4;have hwl:IntKind.i64.wrap (Int.ofNat ln)=ln:=by
      exact IntWalk.i64_in _ (by simp;omega)
     have hwc:IntKind.i64.wrap (Int.ofNat cn)=cn:=by
      exact IntWalk.i64_in _ (by simp;omega)
     refine Sr (t:=e) c1 (aS.free (zi h4 cn)) (uL (zi h4 cn)) ?_;have EL:z≠[]:=λe=>by subst e;simp at hzl;omega
     have hbig:¬((i.bytes:Int)*(cn:Int)>281474976710656):=by
      rw[<- Int.natCast_mul,Ca];have c2':cn*i.bytes<=1073741824:=c2;omega
     have hsz:((cn:Int)).toNat=cn:=by simp
     have hsz2:((ln:Int)).toNat=ln:=by simp
     have hzs:(⟨z⟩:Array Value).size=s:=hzl;simp only[execOp,Instr.makeSlice,dG,fJ hu,dI,hl',hk',asInt,asIntOf,fo,EJ h1,hwl,hwc,Int.reducePow];rw[if_neg (by simp only[wW,BX,not_or];omega)];simp only[hsz,hsz2,dG,run_askRoom,dI,mO h5,hzl];by_cases h0:cn*s=0
     ·rw[if_pos h0];have ZV:cn=0:=by
       rcases Nat.mul_eq_zero.1 h0 with hh|hh
       ·exact hh
       ·omega
      subst ZV;have hz0:zeros z 0=[]:=rfl;simp[newRow,hz0,Su]
     ·rw[if_neg h0];have hzz:zeroOf P e=some zv:=by
       unfold vX at hz;split at hz
       ·rename_i z' n' hz' _;obtain⟨i',j1,j2,_⟩:=Cw hz';rw[h1]at j1;cases j1;rw[h2]at j2;cases j2;exact hz'
       ·cases hz
      have hrow:=Hw z cn EL;rw[hzl]at hrow;simp only[dG,Cx hzz,dI,h3,fo,newRow,run_newObj,hrow]
   ·cases ha
  ·cases hc
 ·cases hc
theorem F2.of_map{γ δ:Type}{R:γ->δ->Prop}(f:γ->δ)(l:List γ)(h:∀x∈l,R x (f x)):F2 R l (l.map f):=by
 induction l with
 |nil=>exact .nil
 |cons x l ih=>exact .cons (h x (by simp)) (ih λy hy=>h y (by simp[hy]))
section
variable {dst:Option Tmp} {type:TypeId} {pos:String} {after:Array Edge} {guard:Option (Nat×Bool)} {c:aF} {ρ ρ':Operand->Value} {f:Nat->Value} {ob:dJ} {v:Value} {h':IH}
theorem ZW{t:TypeId}{len:Nat}{parts:Array (Nat×Operand)}
 (hc:cop P ⟨dst,.buildSlice t len parts,type,pos,after,guard⟩=some c) (ha:c.alloc ρ=some (f,ob)) (hρ:∀p∈parts.toList,VR β (ρ p.2) (ρ' p.2)):
 uM P β w (execOp ρ' ⟨dst,.buildSlice t len parts,type,pos,after,guard⟩) f ob:=by
 simp only[cop]at hc;split at hc
 ·rename_i e hu;split at hc
  ·rename_i s z hs hz;split at hc
   ·rename_i hle;cases hc;simp only[aF.alloc]at ha;split at ha
    ·rename_i cs hcs;cases ha;obtain⟨zv,i,h1,h2,h3,h4,h5⟩:=zh hz;obtain⟨hs1,hs2⟩:=tH hs;rw[h5]at hs1;have hzl:z.length=s:=by simpa using hs1
     have EL:z≠[]:=λe=>by subst e;simp at hzl;omega
     obtain⟨cs',r1,r2,r3,_⟩:=Mt (β:=β) (place:=λi=>some (i*s,s)) (ρ:=ρ) (ρ':=ρ') parts.toList _ (zeros z len) (zeros z len) cs
      (F2.of_map (λp=>(p.1*s,s,p.2)) _ λp _=>⟨rfl,rfl⟩) (aS.free (zi h4 len)) (uL (zi h4 len)) hcs hρ
     refine Sr (t:=e) (bB _) r2 r3 ?_;have hzz:zeroOf P e=some zv:=by
      unfold vX at hz;split at hz
      ·rename_i z' n' hz' _;obtain⟨i',j1,j2,_⟩:=Cw hz';rw[h1]at j1;cases j1;rw[h2]at j2;cases j2;exact hz'
      ·cases hz
     have hrow:=Hw z len EL;rw[hzl]at hrow;have hpl:(parts.map λ(x:Nat×Operand)=>match x with|(i,x)=>(i,ρ' x)).toList=parts.toList.map λp=>(p.1,ρ' p.2):=by simp
     simp only[execOp,Instr.buildSlice,dG,fJ hu,dI,mO h5,hzl,hpl];rw[if_neg (by omega)];simp only[dG,dI,fo];by_cases h0:len*s=0
     ·have hl0:len=0:=by
       rcases Nat.mul_eq_zero.1 h0 with hh|hh
       ·exact hh
       ·omega
      subst hl0;rw[if_pos h0];have hz0:(Array.map (λx=>(#[]:Array Value)[x%(#[]:Array Value).size]!) (Array.range (0*s)))=⟨zeros z 0⟩:=by rw[h0];exact Su _
      simp only[dG,fo,dI,hz0,r1,newRow,run_newObj]
     ·rw[if_neg h0];simp only[dG,Cx hzz,dI,h3,fo,hrow,r1,newRow,run_newObj]
    ·cases ha
   ·cases hc
  ·cases hc
 ·cases hc
theorem ZX{x:Operand}(hc:cop P ⟨dst,.move x,type,pos,after,guard⟩=some c)(hr:c.run P ρ h=some (v,h'))(hx:VR β (ρ x) (ρ' x))(hW:WR P β h w):
 Good P β h w (execOp ρ' ⟨dst,.move x,type,pos,after,guard⟩) v h':=by
 simp only[cop,aH]at hc;subst hc;simp only[aF.run,aH,dA]at hr;obtain⟨rfl,rfl⟩:=hr;exact Good.same hW (v':=ρ' x) (by simp[execOp]) hx
theorem ZY{x:Operand}(hc:cop P ⟨dst,.assign x,type,pos,after,guard⟩=some c)(hr:c.run P ρ h=some (v,h'))(hx:VR β (ρ x) (ρ' x))(hW:WR P β h w):
 Good P β h w (execOp ρ' ⟨dst,.assign x,type,pos,after,guard⟩) v h':=by
 simp only[cop,aH]at hc;subst hc;simp only[aF.run,aH,dA]at hr;obtain⟨rfl,rfl⟩:=hr;exact Good.same hW (v':=ρ' x) (by simp[execOp]) hx
theorem ZZ{x y z:Operand}(hc:cop P ⟨dst,.pick x y z,type,pos,after,guard⟩=some c)(hr:c.run P ρ h=some (v,h'))(hx:VR β (ρ x) (ρ' x))(hy:VR β (ρ y) (ρ' y))(hz:VR β (ρ z) (ρ' z))(hW:WR P β h w):
 Good P β h w (execOp ρ' ⟨dst,.pick x y z,type,pos,after,guard⟩) v h':=by
 simp only[cop,aH]at hc;subst hc;simp only[aF.run]at hr;split at hr
 ·rename_i t ht;rw[ht]at hx;have hx':=hx.Ht;simp only[aH,dA]at hr;obtain⟨rfl,rfl⟩:=hr;cases t
  ·exact Good.same hW (v':=ρ' z) (by simp[execOp,hx',asBool]) hz
  ·exact Good.same hW (v':=ρ' y) (by simp[execOp,hx',asBool]) hy
 ·cases hr
theorem run_places{fs:Array Field}(hall:fs.toList.all (λf=>(jC P f.type).isSome)=true)(w:World):
 ∃pl:Array (Nat×Nat),(fs.mapM λf=>do pure (f.offset,<- sizeOf f.type):Sem (Array (Nat×Nat))).run P w=.ok pl w/\∀(i:Nat) fd,fs[i]? =some fd->∃s,jC P fd.type=some s/\pl[i]? =some (fd.offset,s):=by
 obtain⟨l⟩:=fs;have key:∀l:List Field,l.all (λf=>(jC P f.type).isSome)=true->
  ∃pl:List (Nat×Nat),(l.mapM λf=>do pure (f.offset,<- sizeOf f.type):Sem (List (Nat×Nat))).run P w=.ok pl w/\∀(i:Nat) fd,l[i]? =some fd->∃s,jC P fd.type=some s/\pl[i]? =some (fd.offset,s):=by
  intro l;induction l with
  |nil=>intro _;exact⟨[],by simp,λi fd hi=>by simp at hi⟩
  |cons x l ih=>
   intro hl;simp only[Em,eU]at hl;obtain⟨pl,h1,h2⟩:=ih hl.2;obtain⟨s,hs⟩:=Zv.1 hl.1;refine⟨(x.offset,s)::pl,?_,λi fd hi=>?_⟩
   ·simp only[List.mapM_cons,dG,mO hs,dI,fo,h1]
   ·cases i with
    |zero=>simp at hi;subst hi;exact⟨s,hs,by simp⟩
    |succ i=>simp at hi;obtain⟨s',a,b⟩:=h2 i fd hi;exact⟨s',a,by simpa using b⟩
 obtain⟨pl,h1,h2⟩:=key l hall;refine⟨⟨pl⟩,?_,λi fd hi=>?_⟩
 ·rw[List.mapM_toArray,Sem.run_map,h1];rfl
 ·obtain⟨s,a,b⟩:=h2 i fd (by simpa using hi);exact⟨s,a,by simpa using b⟩
theorem Z0{fs:Array Field}{pl:Array (Nat×Nat)}(hpl:∀(i:Nat) fd,fs[i]? =some fd->∃s,jC P fd.type=some s/\pl[i]? =some (fd.offset,s)):
 ∀(parts:List (Nat×Operand)) (ps:List (Nat×Nat×Operand)),y8 P fs parts=some ps->F2 (λ(p:Nat×Operand) (q:Nat×Nat×Operand)=>q.2.2=p.2/\pl[p.1]? =some (q.1,q.2.1)) parts ps:=by
 intro parts;induction parts with
 |nil=>intro ps h;simp[y8]at h;subst h;exact .nil
 |cons p parts ih=>
  intro ps h;obtain⟨i,x⟩:=p;simp only[y8]at h;split at h
  ·rename_i fd r EM hr;split at h
   ·rename_i s hs;cases h;refine .cons ⟨rfl,?_⟩ (ih r hr);obtain⟨s',a,b⟩:=hpl i fd EM;rw[hs]at a;cases a;exact b
   ·cases h
  ·cases h
theorem Z4{t:TypeId}{parts:Array (Nat×Operand)}(hc:cop P ⟨dst,.build t parts,type,pos,after,guard⟩=some c)(hr:c.run P ρ h=some (v,h'))(hρ:∀p∈parts.toList,VR β (ρ p.2) (ρ' p.2))(hW:WR P β h w):
 Good P β h w (execOp ρ' ⟨dst,.build t parts,type,pos,after,guard⟩) v h':=by
 have hpl:(parts.map λ(x:Nat×Operand)=>match x with|(i,x)=>(i,ρ' x)).toList=parts.toList.map λp=>(p.1,ρ' p.2):=by simp
 simp only[cop]at hc;split at hc
 ·rename_i fs z hu hz;split at hc
  ·rename_i ps hps;cases hc;simp only[aF.run]at hr;split at hr
   ·rename_i cs hcs;simp only[aH,dA]at hr;obtain⟨rfl,rfl⟩:=hr;obtain⟨zv,i,h1,h2,h3,h4,h5⟩:=zh hz;unfold placesOf at hps;split at hps
    ·rename_i hall;obtain⟨pl,q1,q2⟩:=run_places (P:=P) hall w;obtain⟨cs',r1,r2,r3,_⟩:=Mt (β:=β) (place:=λi=>pl[i]?) (ρ:=ρ) (ρ':=ρ') parts.toList ps z z cs (Z0 q2 _ _ hps) (aS.free h4) (uL h4) hcs hρ;refine Good.same hW (v':=.agg ⟨cs'⟩) ?_ (.agg r3 r2);simp only[execOp,Instr.build,dG,zeroValue,EJ h1,h2,dI,fo,h3,fJ hu,q1,hpl,r1]
    ·cases hps
   ·cases hr
  ·cases hc
 ·rename_i n e z hu hz;split at hc
  ·rename_i s hs;cases hc;simp only[aF.run]at hr;split at hr
   ·rename_i cs hcs;simp only[aH,dA]at hr;obtain⟨rfl,rfl⟩:=hr;obtain⟨zv,i,h1,h2,h3,h4,h5⟩:=zh hz;obtain⟨hs1,hs2⟩:=tH hs;obtain⟨cs',r1,r2,r3,_⟩:=Mt (β:=β) (place:=λi=>some (i*s,s)) (ρ:=ρ) (ρ':=ρ') parts.toList _ z z cs (F2.of_map (λp=>(p.1*s,s,p.2)) _ λp _=>⟨rfl,rfl⟩) (aS.free h4) (uL h4) hcs hρ;refine Good.same hW (v':=.agg ⟨cs'⟩) ?_ (.agg r3 r2);simp only[execOp,Instr.build,dG,zeroValue,EJ h1,h2,dI,fo,h3,fJ hu,mO hs1,hpl,r1]
   ·cases hr
  ·cases hc
 ·cases hc
theorem Z5{t:TypeId}{x:Operand}(hc:cop P ⟨dst,.load t x,type,pos,after,guard⟩=some c)(hr:c.run P ρ h=some (v,h'))(hx:VR β (ρ x) (ρ' x))(hW:WR P β h w):
 Good P β h w (execOp ρ' ⟨dst,.load t x,type,pos,after,guard⟩) v h':=by
 simp only[cop]at hc;split at hc
 ·rename_i hagg;cases hs:jC P t with
  |none=>simp[hs]at hc
  |some n=>
   simp only[hs,jZ,aH]at hc;subst hc;simp only[aF.run]at hr;split at hr
   ·rename_i i o ha;rw[ha]at hx;obtain⟨g,hg,hx'⟩:=hx.uN;split at hr
    ·rename_i cs hcs;simp only[aH,dA]at hr;obtain⟨rfl,rfl⟩:=hr;obtain⟨blk,hb,hl⟩:=Cz hcs;obtain⟨l1,l2,l',l3,l4⟩:=Ho hW hg hb hl;obtain⟨d,hd⟩:=Si hagg;refine Good.same hW (v':=.agg ⟨l'⟩) ?_ (.agg l2 l3);have:=Mo (P:=P) (n:=n) (by rw[l3.length,l1]) l4;simp[execOp,Instr.loadAt,Instr.sureAddr,hx',loadVar,Cy hd,hagg,mO hs,this]
    ·cases hr
   ·cases hr
 ·rename_i hagg;split at hc
  ·rename_i d hd;cases hc;simp only[aF.run]at hr;split at hr
   ·rename_i i o ha;rw[ha]at hx;obtain⟨g,hg,hx'⟩:=hx.uN;split at hr
    ·rename_i u hu0;simp only[aH,dA]at hr;obtain⟨rfl,rfl⟩:=hr;obtain⟨cs,hcs,hu⟩:=Sk hu0;have h7:∀(j:Nat) v,cs[j]? =some v->∃v',w.cell? ⟨g.b,g.off+j,none⟩=some v'/\VR β v v':=by
      rcases hcs with hcs|hcs
      ·obtain⟨_,_,_,_,_,h7⟩:=hW.obj i g _ hg hcs;exact h7
      ·obtain⟨_,_,_,h7⟩:=hW.obj i g _ hg hcs;exact h7
     rw[qK]at hu;obtain⟨v',a,b⟩:=h7 _ _ hu;refine Good.same hW (v':=v') ?_ b;have Mw:jD P t=false:=by simpa using hagg
     simp[execOp,Instr.loadAt,Instr.sureAddr,hx',loadVar,Cy hd,Mw,a]
    ·cases hr
   ·cases hr
  ·cases hc
theorem Z6{t:TypeId}{x y:Operand}(hc:cop P ⟨dst,.store t x y,type,pos,after,guard⟩=some c)(hr:c.run P ρ h=some (v,h'))(hx:VR β (ρ x) (ρ' x))(hy:VR β (ρ y) (ρ' y))(hW:WR P β h w):
 Good P β h w (execOp ρ' ⟨dst,.store t x y,type,pos,after,guard⟩) v h':=by
 simp only[cop]at hc;cases hs:jC P t with
 |none=>simp[hs]at hc
 |some n=>
  simp only[hs,jZ,aH]at hc;subst hc;simp only[aF.run]at hr;split at hr
  ·rename_i i o vs ha hv;rw[ha]at hx;obtain⟨g,hg,hx'⟩:=hx.uN;cases hb:Nat.beq (iG vs) n with
   |false=>rw[hb]at hr;cases hr
   |true=>
    rw[hb]at hr;simp only[cond_true]at hr;split at hr
    ·rename_i h1 hst;simp only[aH,dA]at hr;obtain⟨rfl,rfl⟩:=hr;obtain⟨c1,vs',c2,c3⟩:=hy.cells hv;obtain⟨m1,m2,m3⟩:=Hq hW hg hst c3 c1;refine⟨.skip,_,β,undef,?_,.inr ⟨rfl,rfl⟩,.dO _,m2,m3⟩;have hlen:vs'.length=n:=by rw[c3.length,<- wh];exact qC hb
     have hsz:((ρ' y).cells.size≠n)=False:=by simp[c2,hlen]
     simp[execOp,Instr.storeAt,Instr.sureAddr,hx',storeVar,mO hs,hsz,c2,m1 0 rfl,hlen]
    ·cases hr
  ·cases hr
end
end Go.Ideal
namespace Go.Ideal
variable {P:Program} {β:aG} {h:IH} {w:World}
section
variable {dst:Option Tmp} {type:TypeId} {pos:String} {after:Array Edge} {guard:Option (Nat×Bool)} {c:aF} {ρ ρ':Operand->Value} {v:Value} {h':IH}
theorem Z7{x:Operand}(hc:cop P ⟨dst,.nilCheck x,type,pos,after,guard⟩=some c)(hr:c.run P ρ h=some (v,h'))(hx:VR β (ρ x) (ρ' x))(hW:WR P β h w):
 Good P β h w (execOp ρ' ⟨dst,.nilCheck x,type,pos,after,guard⟩) v h':=by
 simp only[cop,aH]at hc;subst hc;simp only[aF.run]at hr;split at hr<;>simp only[aH,dA,reduceCtorEq]at hr
 ·rename_i a ha;obtain⟨rfl,rfl⟩:=hr;rw[ha]at hx;refine Good.same hW (v':=ρ' x) ?_ hx;have:∃a',ρ' x=.pointer (some a'):=by
   generalize ρ' x=u at hx;cases hx with|ptr hi=>exact⟨_,rfl⟩
  obtain⟨a',e⟩:=this;simp[execOp,e]
 ·rename_i t u ha;obtain⟨rfl,rfl⟩:=hr;rw[ha]at hx;refine Good.same hW (v':=ρ' x) ?_ hx;obtain⟨u',_,e⟩:=hx.AU;simp[execOp,e]
 ·rename_i f first captured ha
  obtain⟨rfl,rfl⟩:=hr;rw[ha]at hx;refine Good.same hW (v':=ρ' x) ?_ hx;obtain⟨fn',f',c',h1,_,_,e⟩:=hx.zg;cases h1;simp[execOp,e]
 ·rename_i t n first captured ha
  obtain⟨rfl,rfl⟩:=hr;rw[ha]at hx;refine Good.same hW (v':=ρ' x) ?_ hx;obtain⟨fn',f',c',h1,_,_,e⟩:=hx.zg;cases h1;simp[execOp,e]
 ·rename_i l first captured ha
  obtain⟨rfl,rfl⟩:=hr;rw[ha]at hx;refine Good.same hW (v':=ρ' x) ?_ hx;obtain⟨fn',f',c',h1,_,_,e⟩:=hx.zg;cases h1;simp[execOp,e]
theorem tJ(a b:Int):leZ a b=decide (a<=b):=by
 cases a<;>cases b<;>simp only[leZ]
 ·rename_i x y;rw[sO];simp[sP]
 ·rename_i x y;simp;omega
 ·rename_i x y;simp;omega
 ·rename_i x y;rw[sO];simp[sP];omega
theorem EN(a b:Int):Cm a b=(a==b):=by
 cases a<;>cases b<;>simp only[Cm]
 ·rename_i x y;rw[sO];simp[Nat.beq_eq];omega
 ·rfl
 ·rfl
 ·rename_i x y;rw[sO];simp[Nat.beq_eq]
theorem Sv(a b:Int):R4 a b=a+b:=by cases a<;>cases b<;>rfl
theorem Sw(a b:Int):Mc a b=a - b:=by
 cases a<;>cases b<;>simp only[Mc]
 rename_i x y;cases hb:Nat.ble y x with
 |true=>
  have:=mJ hb;show Int.ofNat (x - y)=_;simp;omega
 |false=>
  have:¬y<=x:=λhh=>by rw[GG hh]at hb;cases hb
  show Int.negSucc ((y - x).pred)=_;simp[Int.negSucc_eq,Nat.pred_eq_sub_one];omega
theorem Mx(k:IntKind)(n:Int):Ew k n=k.wrap n:=by
 have hmax:Ma=9223372036854775807:=rfl;have key:∀n:Int, -9223372036854775808<=n/\n<=9223372036854775807->n=IntKind.i64.wrap n:=λn hn=>(IntWalk.i64_in n hn).symm;unfold Ew;split
 ·rename_i m;cases hb:Nat.ble m Ma with
  |true=>have:=mJ hb;exact(cond_true _ _).trans (key _ (by rw[Int.ofNat_eq_natCast];omega))
  |false=>exact cond_false _ _
 ·rename_i m;cases hb:Nat.ble m 1000000 with
  |true=>
   have h1:=mJ hb;have h2:(-1000001:Int)<=Int.negSucc m:=by rw[Int.negSucc_eq];omega
   have h3:Int.negSucc m<=0:=by rw[Int.negSucc_eq];omega
   exact(cond_true _ _).trans (key _ ⟨Int.le_trans (by decide) h2,Int.le_trans h3 (by decide)⟩)
  |false=>exact cond_false _ _
 ·rfl
theorem Sy{j k:IntKind}(h:uJ j k=true):j=k:=by
 cases j<;>cases k<;>first|rfl|(simp[uJ]at h)
theorem Z8{op:BinOp}{k:IntKind}{a b:Int}{v:Value}{t:TypeId}(h:pX op k a b=some v)(w:World):(binOp op t (.int k a) (.int k b)).run P w=.ok v w:=by
 unfold pX at h;split at h<;>simp only[aH,reduceCtorEq]at h<;>subst h
 ·simp[binOp,Op.intArith,Mx,Sv]
 ·simp[binOp,Op.intArith,Mx,Sw]
 ·simp[binOp,Op.intCmp,EN]
 ·simp[binOp,Op.intCmp,EN];rfl
 ·simp[binOp,Op.intCmp,tJ,<- Int.not_le]
 ·simp[binOp,Op.intCmp,tJ,<- Int.not_le]
 ·simp[binOp,Op.intCmp,tJ,<- Int.not_le]
 ·simp[binOp,Op.intCmp,tJ,<- Int.not_le]
theorem MB(op:BinOp)(t:TypeId)(x y:Operand)(a b:Value)(w:World)(h1:∀u,a≠.agg u)(h2:¬(a=.nilIface/\b=.nilIface)):(eqGuard op t x y a b).run P w=.ok () w:=by
 cases op<;>first
  |rfl
  |(cases a<;>first
   |rfl
   |exact absurd rfl (h1 _)
   |(cases b<;>first
    |rfl
    |exact absurd ⟨rfl,rfl⟩ h2))
theorem Z9(d:Nat){t:TypeId}{a b a' b':Value}{r:Bool}(h:sW P t a b=some r)(ha:VR β a a')(hb:VR β b b')(w:World):
 (Op.equalIn (d+1) t a' b').run P w=.ok r w/\(∀u,a'≠.agg u)/\¬(a'=.nilIface/\b'=.nilIface)/\(∀k n,a'≠.int k n)/\(∀s,a'≠.string s)/\(∀k n,a'≠.float k n)/\(∀k n m,a'≠.complex k n m):=by
 cases hu:P.underlying t with
 |none=>unfold sW at h;simp[hu]at h
 |some ty=>
  unfold sW at h;rw[hu]at h;split at h<;>simp only[aH,reduceCtorEq]at h<;>subst h
  all_goals
   have he:=‹some ty=some _›;obtain rfl:=Option.some.inj he;cases ha<;>cases hb<;>refine⟨?_,by simp,by simp,by simp,by simp,by simp,by simp⟩<;>(unfold Op.equalIn;simp only[dG,fJ hu,dI];rfl)
theorem Sz{t:TypeId}{a b a' b':Value}{r:Bool}(h:sW P t a b=some r)(ha:VR β a a')(hb:VR β b b')(w:World):
 (Op.equal t a' b').run P w=.ok r w/\(∀u,a'≠.agg u)/\¬(a'=.nilIface/\b'=.nilIface)/\(∀k n,a'≠.int k n)/\(∀s,a'≠.string s)/\(∀k n,a'≠.float k n)/\(∀k n m,a'≠.complex k n m):=
 Z9 9999 h ha hb w
theorem EO{s:Sem Value}{v:Value}(h:kP P s=some v):eB P s=some v/\dF v=true:=by
 unfold kP at h;split at h
 ·rename_i u hu;cases hf:dF u with
  |true=>rw[hf]at h;simp only[cond_true,aH]at h;subst h;exact⟨hu,hf⟩
  |false=>rw[hf]at h;cases h
 ·cases h
theorem aaa{op:BinOp}{t:TypeId}{x y:Operand}{yt:TypeId}(hc:cop P ⟨dst,.binOp op t x y yt,type,pos,after,guard⟩=some c)(hr:c.run P ρ h=some (v,h'))(hx:VR β (ρ x) (ρ' x))(hy:VR β (ρ y) (ρ' y))(hW:WR P β h w):
 Good P β h w (execOp ρ' ⟨dst,.binOp op t x y yt,type,pos,after,guard⟩) v h':=by
 simp only[cop,aH]at hc;subst hc;simp only[aF.run]at hr;split at hr
 ·rename_i u hu;simp only[aH,dA]at hr;obtain⟨rfl,rfl⟩:=hr;unfold kD at hu;split at hu
  · -- integers
    rename_i v1 hv1;simp only[aH]at hu;subst hu;split at hv1
    ·rename_i j m k n hm hn;cases hk:uJ j k with
     |false=>rw[hk]at hv1;cases hv1
     |true=>
      rw[hk]at hv1;simp only[cond_true]at hv1;have:=Sy hk;subst this;rw[hm]at hx;rw[hn]at hy;have hx':=hx.mq;have hy':=hy.mq;have hfree:dF v1=true:=by
       unfold pX at hv1;split at hv1<;>simp only[aH,reduceCtorEq]at hv1<;>subst hv1<;>rfl
      refine Good.same hW (v':=v1) ?_ (VR.free hfree);simp only[execOp,hx',hy',dG,MB op t x y (.int j m) (.int j n) w (by simp) (by simp),dI,Z8 hv1,fo]
    ·cases hv1
  ·cases hf:dF (ρ x)&&dF (ρ y)with
   |true=>
    rw[hf]at hu;simp only[cond_true]at hu;simp only[eU]at hf;have hx':=hx.qc hf.1;have hy':=hy.qc hf.2;obtain⟨hu1,hu2⟩:=EO hu;have hrun:=ze hu1 w;refine Good.same hW (v':=u) ?_ (VR.free hu2);simp only[execOp,hx',hy'];simp only[dG]at hrun⊢;rw[hrun];rfl
   |false=>
    rw[hf]at hu;simp only[cond_false]at hu;have SA:∀(a b:Value),(∀k n,a≠.int k n)->(∀s,a≠.string s)->(∀k n,a≠.float k n)->(∀k n m,a≠.complex k n m)->
     binOp .eql t a b=(do pure (.bool (<- Op.equal t a b)))/\binOp .neq t a b=(do pure (.bool (!(<- Op.equal t a b)))):=by
     intro a b h1 h2 h3 h4;constructor<;>unfold binOp<;>cases a<;>first|rfl|exact absurd rfl (h1 _ _)|exact absurd rfl (h2 _)|exact absurd rfl (h3 _ _)|exact absurd rfl (h4 _ _ _)
    split at hu
    ·split at hu
     ·rename_i r hr2;simp only[aH]at hu;subst hu;obtain⟨e1,e2,e3,e4,e5,e6,e7⟩:=Sz hr2 hx hy w;refine Good.same hW (v':=.bool r) ?_ (.bool r);simp only[execOp,dG,MB _ t x y _ _ w e2 e3,dI,(SA _ _ e4 e5 e6 e7).1,e1,fo]
     ·cases hu
    ·split at hu
     ·rename_i r hr2;simp only[aH]at hu;subst hu;obtain⟨e1,e2,e3,e4,e5,e6,e7⟩:=Sz hr2 hx hy w;refine Good.same hW (v':=.bool !r) ?_ (.bool _);simp only[execOp,dG,MB _ t x y _ _ w e2 e3,dI,(SA _ _ e4 e5 e6 e7).2,e1,fo]
     ·cases hu
    ·cases hu
 ·cases hr
theorem aab{op:UnOp}{t:TypeId}{x:Operand}(hc:cop P ⟨dst,.unOp op t x,type,pos,after,guard⟩=some c)(hr:c.run P ρ h=some (v,h'))(hx:VR β (ρ x) (ρ' x))(hW:WR P β h w):
 Good P β h w (execOp ρ' ⟨dst,.unOp op t x,type,pos,after,guard⟩) v h':=by
 simp only[cop,aH]at hc;subst hc;simp only[aF.run]at hr;cases hf:dF (ρ x)with
 |false=>rw[hf]at hr;cases hr
 |true=>
  rw[hf]at hr;simp only[cond_true]at hr;split at hr
  ·rename_i u hu;simp only[aH,dA]at hr;obtain⟨rfl,rfl⟩:=hr;obtain⟨h1,h2⟩:=EO hu;have hx':=hx.qc hf;exact Good.same hW (v':=u) (by simp only[execOp,hx',dG,ze h1 w,dI,fo]) (VR.free h2)
  ·cases hr
theorem aac{t:TypeId}{x:Operand}(hc:cop P ⟨dst,.makeInterface t x,type,pos,after,guard⟩=some c)(hr:c.run P ρ h=some (v,h'))(hx:VR β (ρ x) (ρ' x))(hW:WR P β h w):
 Good P β h w (execOp ρ' ⟨dst,.makeInterface t x,type,pos,after,guard⟩) v h':=by
 simp only[cop]at hc;split at hc
 ·cases hc
 ·rename_i d hni hu;cases hc;simp only[aF.run,aH,dA]at hr;obtain⟨rfl,rfl⟩:=hr;refine Good.same hW (v':=.iface t (ρ' x)) ?_ (.iface t hx);simp only[execOp,Instr.makeInterface,dG,fJ hu,dI];cases d<;>first|rfl|exact absurd rfl (hni _)
 ·cases hc
theorem FR.refl{fn:Fn}(h:G8 fn=true):FR β fn fn:=by
 cases fn with
 |func f=>exact .func f
 |method n=>exact .method n
 |methodOf t n=>exact .methodOf t n
 |via=>simp[G8]at h
 |yield l=>simp[G8]at h
theorem aad{fn:Fn}{first captured:Array Operand}(hc:cop P ⟨dst,.makeFunc fn first captured,type,pos,after,guard⟩=some c)(hr:c.run P ρ h=some (v,h'))
 (hf:∀x∈first.toList,VR β (ρ x) (ρ' x)) (hk:∀x∈captured.toList,VR β (ρ x) (ρ' x)) (hW:WR P β h w):
 Good P β h w (execOp ρ' ⟨dst,.makeFunc fn first captured,type,pos,after,guard⟩) v h':=by
 simp only[cop]at hc;split at hc
 ·rename_i hfn;cases hc;simp only[aF.run,aH,dA]at hr;obtain⟨rfl,rfl⟩:=hr;refine Good.same hW (v':=.func fn (first.map ρ') (captured.map ρ')) (by simp[execOp,Instr.makeFunc]) ?_;have e1:first.map ρ'=⟨first.toList.map ρ'⟩:=by apply Array.ext';rw[LH]
  have e2:captured.map ρ'=⟨captured.toList.map ρ'⟩:=by apply Array.ext';rw[LH]
  rw[e1,e2];exact .func (FR.refl hfn) (aS.of_map hf) (aS.of_map hk)
 ·cases hc
theorem aae{a:Addr}{f:Field}{n:Nat}(hs:jC P f.type=some n)(hn:0<n)(w:World):(fieldPlace a f).run P w=.ok (a.add f.offset) w:=by
 simp only[fieldPlace,dG,mO hs,dI];rw[if_neg (by omega)];rfl
theorem aaf{s:TypeId}{x:Operand}{f:Nat}(hc:cop P ⟨dst,.fieldAddr s x f,type,pos,after,guard⟩=some c)(hr:c.run P ρ h=some (v,h'))(hx:VR β (ρ x) (ρ' x))(hW:WR P β h w):
 Good P β h w (execOp ρ' ⟨dst,.fieldAddr s x f,type,pos,after,guard⟩) v h':=by
 simp only[cop]at hc;split at hc
 ·rename_i fs hu;split at hc
  ·rename_i fd EM;cases hs:mZ P fd.type with
   |none=>simp[hs]at hc
   |some n=>
    simp only[hs,jZ,aH]at hc;subst hc;obtain⟨hs1,hs2⟩:=tH hs;simp only[aF.run]at hr;split at hr
    ·rename_i i o ha;rw[ha]at hx;obtain⟨g,hg,hx'⟩:=hx.uN;simp only[aH,dA]at hr;obtain⟨rfl,rfl⟩:=hr;refine Good.same hW (v':=.pointer (some ⟨g.b,g.off+(o+fd.offset),none⟩)) ?_ (.ptr hg);simp only[execOp,Instr.fieldAt,dG,fJ hu,dI,EM,hx',Instr.sureAddr,fo,aae hs1 hs2,addr_add,pU]
    ·cases hr
  ·cases hc
 ·cases hc
theorem SB{t:TypeId}{cs cs':List Value}{off n:Nat}{d:TypeDesc}(hd:P.underlying t=some d)(hs:jC P t=some n)(hv:aS β cs cs')(hall:cs.all cellV=true){v:Value}
 (hr:(match jD P t with
   |true=>match jh (jK cs off) n with
    |some l=>some (.agg ⟨l⟩:Value)
    |none=>none
   |false=>jV cs off)=some v) (w:World):∃v',(part t ⟨cs'⟩ off).run P w=.ok v' w/\VR β v v':=by
 cases hagg:jD P t with
 |true=>
  rw[hagg]at hr;simp only at hr;rw[rO,qL]at hr;split at hr
  ·rename_i l hl;split at hl
   ·rename_i hn;cases hl;simp only[aH]at hr;subst hr;refine⟨.agg ⟨(cs'.drop off).take n⟩,?_,.agg ?_ ((hv.drop off).take n)⟩
    ·simp only[part,dG,Cy hd,hagg,dI,if_true,mO hs,fo];congr 2;apply Array.ext';simp[Array.toList_extract,Ro]
    ·rw[iV]at hall⊢;exact λx hx=>hall x (List.mem_of_mem_drop (LF hx))
   ·cases hl
  ·cases hr
 |false=>
  rw[hagg]at hr;simp only at hr;rw[qK]at hr;obtain⟨v',h1,h2⟩:=hv.get hr;refine⟨v',?_,h2⟩;simp only[part,dG,Cy hd,hagg,dI,uE,if_false];have:(⟨cs'⟩:Array Value)[off]? =some v':=by simpa using h1
  simp[this]
theorem aag{t:TypeId}{x:Operand}{f:Nat}(hc:cop P ⟨dst,.field t x f,type,pos,after,guard⟩=some c)(hr:c.run P ρ h=some (v,h'))(hx:VR β (ρ x) (ρ' x))(hW:WR P β h w):
 Good P β h w (execOp ρ' ⟨dst,.field t x f,type,pos,after,guard⟩) v h':=by
 simp only[cop]at hc;split at hc
 ·rename_i fs hu;split at hc
  ·rename_i fd EM;split at hc
   ·rename_i n d hs hd;cases hc;simp only[aF.run]at hr;split at hr
    ·rename_i cs ha;rw[ha]at hx;obtain⟨cs',h1,h2,hx'⟩:=hx.Mr;have hr':h'=h/\(match jD P fd.type with
      |true=>match jh (jK cs fd.offset) n with
       |some l=>some (.agg ⟨l⟩:Value)
       |none=>none
      |false=>jV cs fd.offset)=some v:=by
      cases hagg:jD P fd.type with
      |true=>
       rw[hagg]at hr;simp only at hr⊢;split at hr
       ·rename_i l hl;rw[hl];simp only[aH,dA]at hr⊢;exact⟨hr.2.symm,hr.1⟩
       ·cases hr
      |false=>
       rw[hagg]at hr;simp only at hr⊢;split at hr
       ·rename_i l hl;rw[hl];simp only[aH,dA]at hr⊢;exact⟨hr.2.symm,hr.1⟩
       ·cases hr
     obtain⟨rfl,hr2⟩:=hr';obtain⟨v',p1,p2⟩:=SB hd hs h1 h2 hr2 w;refine Good.same hW (v':=v') ?_ p2;simp only[execOp,Instr.field,dG,fJ hu,dI,EM,hx',asAgg,fo,p1]
    ·cases hr
   ·cases hc
  ·cases hc
 ·cases hc
theorem aah{t:TypeId}{x y:Operand}(hc:cop P ⟨dst,.indexAddr t x y,type,pos,after,guard⟩=some c)(hr:c.run P ρ h=some (v,h'))(hx:VR β (ρ x) (ρ' x))(hy:VR β (ρ y) (ρ' y))(hW:WR P β h w):
 Good P β h w (execOp ρ' ⟨dst,.indexAddr t x y,type,pos,after,guard⟩) v h':=by
 simp only[cop]at hc;split at hc
 ·rename_i n e hu;cases hs:mZ P e with
  |none=>simp[hs]at hc
  |some s=>
   simp only[hs,jZ,aH]at hc;subst hc;obtain⟨hs1,hs2⟩:=tH hs;simp only[aF.run]at hr;split at hr
   ·rename_i b o k i ha hi;rw[ha]at hx;rw[hi]at hy;obtain⟨g,hg,hx'⟩:=hx.uN;have hy':=hy.mq;cases hb:Nat.blt i n with
    |false=>rw[hb]at hr;cases hr
    |true=>
     rw[hb]at hr;simp only[cond_true,aH,dA]at hr;obtain⟨rfl,rfl⟩:=hr;have hlt:i<n:=by simpa[sQ]using hb
     refine Good.same hW (v':=.pointer (some ⟨g.b,g.off+Nat.add o (Nat.mul i s),none⟩)) ?_ (.ptr hg);simp only[execOp,Instr.indexAt,dG,hy',asIntOf,fo,dI,fJ hu,hx',Instr.sureAddr];rw[if_pos ⟨by simp,by simp;omega⟩];simp[mO hs1,addr_add,pU]
   ·cases hr
 ·rename_i e hu;cases hs:mZ P e with
  |none=>simp[hs]at hc
  |some s=>
   simp only[hs,jZ,aH]at hc;subst hc;obtain⟨hs1,hs2⟩:=tH hs;simp only[aF.run]at hr;split at hr
   ·rename_i b o f n k' k i ha hi;rw[ha]at hx;rw[hi]at hy;obtain⟨g,a,c',hg,hx',ha1,ha2,hn,hcc,hoff,_⟩:=hx.ni;have hy':=hy.mq;cases hb:Nat.blt i n with
    |false=>rw[hb]at hr;cases hr
    |true=>
     rw[hb]at hr;simp only[cond_true,aH,dA]at hr;obtain⟨rfl,rfl⟩:=hr;have hlt:i<n:=by simpa[sQ]using hb
     have hae:a=⟨g.b,g.off+o,none⟩:=by
      rcases hoff with h0|⟨h0,ha2⟩
      ·omega
      ·obtain⟨ab,ao,as⟩:=a;simp at ha1 ha2 h0;subst ha1 ha2 h0;rfl
     refine Good.same hW (v':=.pointer (some ⟨g.b,g.off+Nat.add o (Nat.mul i s),none⟩)) ?_ (.ptr hg);simp only[execOp,Instr.indexAt,dG,hy',asIntOf,fo,dI,fJ hu,hx',hae];rw[if_pos ⟨by simp,by simp;omega⟩];simp[mO hs1,addr_add,pU]
   ·cases hr
 ·cases hc
theorem aai{x:Operand}{i:Nat}(hc:cop P ⟨dst,.extract x i,type,pos,after,guard⟩=some c)(hr:c.run P ρ h=some (v,h'))(hx:VR β (ρ x) (ρ' x))(hW:WR P β h w):
 Good P β h w (execOp ρ' ⟨dst,.extract x i,type,pos,after,guard⟩) v h':=by
 simp only[cop,aH]at hc;subst hc;simp only[aF.run]at hr;split at hr
 ·rename_i vs ha;split at hr
  ·rename_i u hu;simp only[aH,dA]at hr;obtain⟨rfl,rfl⟩:=hr;rw[ha]at hx;rw[qK]at hu;generalize hy:ρ' x=y at hx;cases hx with
   |dO=>simp at hu
   |tuple hl=>
    obtain⟨v',h1,h2⟩:=hl.get hu;refine Good.same hW (v':=v') ?_ h2;rename_i l';have:(⟨l'⟩:Array Value)[i]? =some v':=by simpa using h1
    simp[execOp,Instr.extract,hy,this]
  ·cases hr
 ·cases hr
end
end Go.Ideal
namespace Go.Ideal
variable {P:Program} {β:aG} {h:IH} {w:World}
theorem AV{m:Nat}{v:Value}{i:Nat}(h:upTo m v=some i):∃k,v=.int k i/\i<=m:=by
 unfold upTo at h;split at h
 ·rename_i k n;cases hb:Nat.ble n m with
  |true=>rw[hb]at h;simp only[cond_true,aH]at h;subst h;exact⟨k,rfl,mJ hb⟩
  |false=>rw[hb]at h;cases h
 ·cases h
theorem xC{v:Value}{y m i:Nat}{code:BoundsCode}(h:upTo m v=some i)(hm:m<=y)(w:World):(Instr.sliceBound v y code).run P w=.ok i w:=by
 obtain⟨k,rfl,hle⟩:=AV h;simp only[Instr.sliceBound,asIntOf,dG,fo,dI];rw[if_pos ⟨by omega,by omega⟩];simp
theorem EP{len cap:Nat}{lo hi mx:Option Value}{l hh m:Nat}(h:bounds? len cap lo hi mx=some (l,hh,m)):
 (∀v,mx=some v->upTo cap v=some m)/\(mx=none->m=cap)/\(∀v,hi=some v->upTo m v=some hh)/\(hi=none->mx=none/\hh=len)/\
 (∀v,lo=some v->upTo hh v=some l)/\(lo=none->l=0):=by
 unfold bounds? at h;split at h
 ·cases h
 ·rename_i m' hm;split at h
  ·cases h
  ·rename_i h1 hhi;split at h
   ·cases h
   ·rename_i l1 hlo;simp only[aH,dA]at h;obtain⟨rfl,rfl,rfl⟩:=h;refine⟨?_,?_,?_,?_,?_,?_⟩
    ·rintro v rfl;exact hm
    ·rintro rfl;simp at hm;exact hm.symm
    ·rintro v rfl;exact hhi
    ·rintro rfl;cases mx with
     |some v=>simp at hhi
     |none=>simp at hhi;exact⟨rfl,hhi.symm⟩
    ·rintro v rfl;exact hlo
    ·rintro rfl;simp at hlo;exact hlo.symm
theorem MC{len cap:Nat}{lo hi mx:Option Value}{l hh m:Nat}(h:bounds? len cap lo hi mx=some (l,hh,m))(hlc:len<=cap):l<=hh/\hh<=m/\m<=cap:=by
 obtain⟨h1,h2,h3,h4,h5,h6⟩:=EP h;refine⟨?_,?_,?_⟩
 ·cases lo with
  |some v=>obtain⟨_,_,hle⟩:=AV (h5 v rfl);exact hle
  |none=>rw[h6 rfl];exact dK _
 ·cases hi with
  |some v=>obtain⟨_,_,hle⟩:=AV (h3 v rfl);exact hle
  |none=>obtain⟨q1,q2⟩:=h4 rfl;rw[q2,h2 q1];exact hlc
 ·cases mx with
  |some v=>obtain⟨_,_,hle⟩:=AV (h1 v rfl);exact hle
  |none=>rw[h2 rfl];exact bB _
theorem Hy{EQ:Bool}{len cap cap':Nat}{lo hi mx:Option Value}{l hh m:Nat}(h:bounds? len cap lo hi mx=some (l,hh,m))(hc:cap<=cap')(w:World):
 (Instr.sliceBounds EQ len cap' lo hi mx).run P w=.ok (l,hh,if mx.isSome then m else cap') w:=by
 obtain⟨h1,h2,h3,h4,h5,h6⟩:=EP h;unfold Instr.sliceBounds;cases mx with
 |some v=>
  have h1:=h1 v rfl;cases hi with
  |none=>exact absurd (h4 rfl).1 (by simp)
  |some u=>
   have h3:=h3 u rfl;cases lo with
   |none=>have h6:=h6 rfl;subst h6;simp[xC h1 hc,xC h3 (bB _)]
   |some x=>have h5:=h5 x rfl;simp[xC h1 hc,xC h3 (bB _),xC h5 (bB _)]
 |none=>
  have h2:=h2 rfl;subst h2;cases hi with
  |none=>
   obtain⟨_,rfl⟩:=h4 rfl;cases lo with
   |none=>have h6:=h6 rfl;subst h6;simp
   |some x=>have h5:=h5 x rfl;simp[xC h5 (bB _)]
  |some u=>
   have h3:=h3 u rfl;cases lo with
   |none=>have h6:=h6 rfl;subst h6;simp[xC h3 hc]
   |some x=>have h5:=h5 x rfl;simp[xC h3 hc,xC h5 (bB _)]
theorem ME{len cap:Nat}{lo hi mx:Option Value}{l hh m:Nat}(h:bounds? len cap lo hi mx=some (l,hh,m)):(if mx.isSome then m else cap)=m:=by
 obtain⟨_,h2,_⟩:=EP h;cases mx with
 |some v=>rfl
 |none=>rw[h2 rfl];rfl
theorem MF{len cap:Nat}{lo hi mx:Option Operand}{ρ ρ':Operand->Value}{r:Nat×Nat×Nat}(h:bounds? len cap (iH ρ lo) (iH ρ hi) (iH ρ mx)=some r)
 (hl:∀x,lo=some x->VR β (ρ x) (ρ' x)) (hh:∀x,hi=some x->VR β (ρ x) (ρ' x)) (hm:∀x,mx=some x->VR β (ρ x) (ρ' x)):
 lo.map ρ'=iH ρ lo/\hi.map ρ'=iH ρ hi/\mx.map ρ'=iH ρ mx:=by
 obtain⟨l,hi2,m⟩:=r;obtain⟨h1,_,h3,_,h5,_⟩:=EP h;refine⟨?_,?_,?_⟩
 ·cases lo with
  |none=>rfl
  |some x=>
   obtain⟨k,hk,_⟩:=AV (h5 _ rfl);have:=hl x rfl;rw[hk]at this;simp[iH,hk,this.mq]
 ·cases hi with
  |none=>rfl
  |some x=>
   obtain⟨k,hk,_⟩:=AV (h3 _ rfl);have:=hh x rfl;rw[hk]at this;simp[iH,hk,this.mq]
 ·cases mx with
  |none=>rfl
  |some x=>
   obtain⟨k,hk,_⟩:=AV (h1 _ rfl);have:=hm x rfl;rw[hk]at this;simp[iH,hk,this.mq]
section
variable {dst:Option Tmp} {type:TypeId} {pos:String} {after:Array Edge} {guard:Option (Nat×Bool)} {c:aF} {ρ ρ':Operand->Value} {v:Value} {h':IH}
theorem aaj{t:TypeId}{x:Operand}{lo hi mx:Option Operand}(hc:cop P ⟨dst,.slice t x lo hi mx,type,pos,after,guard⟩=some c)(hr:c.run P ρ h=some (v,h'))(hx:VR β (ρ x) (ρ' x))
 (hl:∀x,lo=some x->VR β (ρ x) (ρ' x)) (hh:∀x,hi=some x->VR β (ρ x) (ρ' x)) (hm:∀x,mx=some x->VR β (ρ x) (ρ' x)) (hW:WR P β h w):
 Good P β h w (execOp ρ' ⟨dst,.slice t x lo hi mx,type,pos,after,guard⟩) v h':=by
 simp only[cop]at hc;split at hc
 · -- a string
   rename_i hu;cases hc;simp only[aF.run]at hr;split at hr
   ·rename_i s hs;split at hr
    ·rename_i b hb;split at hr
     ·rename_i u hu2;simp only[aH,dA]at hr;obtain⟨rfl,rfl⟩:=hr;obtain⟨h1,h2⟩:=EO hu2;rw[hs]at hx;have hx':=hx.AQ;obtain⟨e1,e2,e3⟩:=MF hb hl hh hm;refine Good.same hW (v':=u) ?_ (VR.free h2);simp only[execOp,Instr.sliceAt,dG,fJ hu,dI,hx',e1,e2,e3,ze h1 w,fo]
     ·cases hr
    ·cases hr
   ·cases hr
 · -- an array
   rename_i n e hu;cases hs:mZ P e with
   |none=>simp[hs]at hc
   |some s=>
    simp only[hs,jZ,aH]at hc;subst hc;obtain⟨hs1,hs2⟩:=tH hs;simp only[aF.run]at hr;split at hr
    ·rename_i i o ha;split at hr
     ·rename_i l h1 m hb;simp only[aH,dA]at hr;obtain⟨rfl,rfl⟩:=hr;rw[ha]at hx;obtain⟨g,hg,hx'⟩:=hx.uN;obtain⟨e1,e2,e3⟩:=MF hb hl hh hm;have b1:=Hy (P:=P) (EQ:=false) hb (bB _) w;rw[ME hb]at b1;have hlen:=MC hb (bB _);refine Good.same hW (v':=.slice (some (if m=l then(⟨g.b,g.off+o,none⟩:Addr)else(⟨g.b,g.off+o,none⟩:Addr).add (l*s))) (h1 - l) (m - l)) ?_ ?_
      ·simp only[execOp,Instr.sliceAt,dG,fJ hu,dI,hx',Instr.sureAddr,fo,e1,e2,e3,b1,mO hs1]
      ·refine .aB hg ?_ (by show h1 - l<=m - l;omega) ?_
       ·split<;>simp[addr_add]
       ·by_cases hml:m=l
        ·left;show m - l=0;omega
        ·right;rw[if_neg hml,addr_add];simp[pU]
     ·cases hr
    ·cases hr
 · -- a slice
   rename_i e hu;cases hs:mZ P e with
   |none=>simp[hs]at hc
   |some s=>
    simp only[hs,jZ,aH]at hc;subst hc;obtain⟨hs1,hs2⟩:=tH hs;simp only[aF.run]at hr;split at hr
    ·rename_i a len cap ha;split at hr
     ·rename_i l h1 m hb;rw[ha]at hx;obtain⟨e1,e2,e3⟩:=MF hb hl hh hm;split at hr
      · -- nil
        simp only[aH,dA]at hr;obtain⟨rfl,rfl⟩:=hr;have hx':ρ' x=.slice none len cap:=by generalize ρ' x=y at hx;cases hx;rfl
        have b1:=Hy (P:=P) (EQ:=true) hb (bB _) w;rw[ME hb]at b1;refine Good.same hW (v':=.slice none (h1 - l) (m - l)) ?_ (.sl0 _ _);simp only[execOp,Instr.sliceAt,Instr.slice,dG,fJ hu,dI,hx',e1,e2,e3,b1,mO hs1,fo];split<;>rfl
      · -- of known capacity
        rename_i i o;simp only[aH,dA]at hr;obtain⟨rfl,rfl⟩:=hr;obtain⟨g,a',c',hg,hx',ha1,ha2,hn,hcc,hoff,hkind⟩:=hx.ni;have hc':c'=cap:=by
         rcases hkind with hk|hk
         ·exact hk.2
         ·have:=hk.1;simp at this;omega
        subst hc';have b1:=Hy (P:=P) (EQ:=true) hb (bB _) w;rw[ME hb]at b1;have hlen:=MC hb hn;obtain⟨ab,ao,as⟩:=a';simp only at ha1 hoff;subst ha1;refine Good.same hW (v':=.slice (some (if m=l then(⟨g.b,ao,as⟩:Addr)else(⟨g.b,ao,as⟩:Addr).add (l*s))) (h1 - l) (m - l)) ?_ ?_
        ·simp only[execOp,Instr.sliceAt,Instr.slice,dG,fJ hu,dI,hx',e1,e2,e3,b1,mO hs1,fo];split<;>rfl
        ·refine .aB hg ?_ (by show h1 - l<=m - l;omega) ?_
         ·split
          ·rfl
          ·simp only[Addr.add];split<;>rfl
         ·by_cases hml:m=l
          ·left;show m - l=0;omega
          ·right;rw[if_neg hml];rcases hoff with h0|⟨h0,hs0⟩
           ·omega
           ·subst h0 hs0;rw[addr_add];simp[pU]
      · -- grown
        rename_i i o k;cases hbk:Nat.beq (Nat.succ k) s with
        |false=>rw[hbk]at hr;cases hr
        |true=>
         rw[hbk]at hr;have hks:k+1=s:=qC hbk;simp only[cond_true,aH,dA]at hr;obtain⟨rfl,rfl⟩:=hr;obtain⟨g,a',c',hg,hx',ha1,ha2,hn,hcc,hoff,hkind⟩:=hx.ni;obtain⟨hsz,hpos,hl1,hl2,ha2⟩:g.sz=s/\0<g.sz/\o+cap*g.sz=g.len/\g.off+o+c'*g.sz=g.top/\a'.spot=none:=by
          rcases hkind with hk|hk
          ·have:=hk.1;simp at this
          ·have:=hk.1;simp at this;exact⟨by omega,hk.2.1,hk.2.2.1,hk.2.2.2⟩
         have b1:=Hy (P:=P) (EQ:=true) hb hcc w;have hlen:=MC hb hn;have MG:c'=0\/a'.off=g.off+o:=hoff.imp id (·.1);clear hoff;obtain⟨ab,ao,as⟩:=a';simp only at ha1 ha2 MG;subst ha1 ha2;have hrun:∀m',(Instr.sliceBounds true len c' (iH ρ lo) (iH ρ hi) (iH ρ mx)).run P w=.ok (l,h1,m') w->
          (execOp ρ' ⟨dst,.slice t x lo hi mx,type,pos,after,guard⟩).run P w=.ok (.value (.slice (some (if m'=l then(⟨g.b,ao,none⟩:Addr)else(⟨g.b,ao,none⟩:Addr).add (l*s))) (h1 - l) (m' - l))) w:=by
          intro m' hm';simp only[execOp,Instr.sliceAt,Instr.slice,dG,fJ hu,dI,hx',e1,e2,e3,hm',mO hs1,fo];split<;>rfl
         cases hmx:mx with
         |some xx=>
          subst hmx;have hmm:(if(iH ρ (some xx)).isSome then m else c')=m:=rfl;rw[hmm]at b1;refine Good.same hW (hrun m b1) ?_;refine .aB hg ?_ (by show h1 - l<=m - l;omega) ?_
          ·split<;>simp[addr_add]
          ·by_cases hml:m=l
           ·left;show m - l=0;omega
           ·right;rw[if_neg hml,addr_add];rcases MG with h0|h0
            ·omega
            ·have h0':ao=g.off+o:=h0;refine⟨?_,rfl⟩;show ao+l*s=g.off+(o+l*s)
             omega
         |none=>
          subst hmx;have hmm:(if(iH ρ (none:Option Operand)).isSome then m else c')=c':=rfl;rw[hmm]at b1;have aak:m=cap:=by
           obtain⟨_,q1,_⟩:=EP hb;exact q1 rfl
          subst aak;refine Good.same hW (hrun c' b1) ?_;have aal:(some (Nat.succ k):Option Nat)=some g.sz:=by rw[hsz,<- hks]
          simp only[aal];have hlc:l*s+(m - l)*s=m*s:=by rw[<- o8];congr 1;omega
          have amJ:l*s+(c' - l)*s=c'*s:=by rw[<- o8];congr 1;omega
          refine .qb hg ?_ ?_ (by show h1 - l<=m - l;omega) hpos ?_ ?_ (by show m - l<=c' - l;omega) ?_
          ·split<;>simp[addr_add]
          ·split<;>simp[addr_add]
          ·show o+l*s+(m - l)*g.sz=g.len;rw[hsz]at hl1⊢;omega
          ·show g.off+(o+l*s)+(c' - l)*g.sz=g.top;rw[hsz]at hl2⊢;omega
          ·by_cases hml:c'=l
           ·left;omega
           ·right;rw[if_neg hml,addr_add];rcases MG with h0|h0
            ·omega
            ·subst h0;simp[pU]
      ·cases hr
     ·cases hr
    ·cases hr
 ·cases hc
end
end Go.Ideal
namespace Go.Ideal
variable {P:Program} {β:aG} {h:IH} {w:World}
theorem ig{α γ:Type}(s:Sem α)(f:α->Sem γ):eB P (s>>=f)=(eB P s).bind λa=>eB P (f a):=by
 show eB P (Sem.bind s f)=_;induction s with
 |pure a=>rfl
 |program k ih=>exact ih _
 |mark m k ih=>exact ih
 |_=>rfl
theorem MH{kt:TypeId}{k:Value}(h:rF P kt k=true)(b:Bool)(w:World):(Instr.checkKey b 10000 kt k).run P w=.ok () w:=by
 unfold rF at h;simp only[eU]at h;obtain⟨_,h⟩:=h;split at h
 ·rename_i x y hx hy;cases b
  ·exact ze hy w
  ·exact ze hx w
 ·cases h
theorem MI{kt:TypeId}{k:Value}(h:rF P kt k=true):dF k=true:=by
 unfold rF at h;simp only[eU]at h;exact h.1
inductive ER(β:aG):Option (Nat×Value)->Option (Nat×Value)->Prop
 |none:ER β none none
 |some (i:Nat) {v v':Value} (h:VR β v v'):ER β (some (i,v)) (some (i,v'))
theorem aam{kd:TypeDesc}{k:Value}{es es':List MapEntry}(he:gp β es es'):∀(i:Nat),
 (∀r,Instr.findNow kd k es i=some r->∃r',Instr.findNow kd k es' i=some r'/\ER β r r')/\(Instr.findNow kd k es i=none->Instr.findNow kd k es' i=none):=by
 induction he with
 |nil=>intro i;exact⟨λr hr=>by simp only[Instr.findNow,aH]at hr;subst hr;exact⟨_,rfl,.none⟩,λhr=>by simp[Instr.findNow]at hr⟩
 | @cons e e' l l' hk hf hb hv hl ih=>
   intro i;simp only[Instr.findNow,hk];cases hs:Instr.sameNow kd k e.key with
   |none=>exact⟨λr hr=>(by cases hr),λ_=>rfl⟩
   |some b=>cases b with
    |true=>exact⟨λr hr=>by simp only[aH]at hr;subst hr;exact⟨_,rfl,.some i hv⟩,λhr=>by simp at hr⟩
    |false=>exact ih (i+1)
theorem aan{kt:TypeId}{k:Value}{es es':List MapEntry}(he:gp β es es')(w:World):∀(i:Nat) r,
 eB P (Instr.findAsking kt k es i)=some r->∃r',(Instr.findAsking kt k es' i).run P w=.ok r' w/\ER β r r':=by
 induction he with
 |nil=>intro i r hr;simp only[Instr.findAsking]at hr;change some none=some r at hr;simp only[aH]at hr;subst hr;exact⟨none,rfl,.none⟩
 | @cons e e' l l' hk hf hb hv hl ih=>
   intro i r hr;simp only[Instr.findAsking,ig]at hr;cases hq:eB P (Op.equal kt k e.key)with
   |none=>rw[hq]at hr;cases hr
   |some b=>
    rw[hq]at hr;simp only[Instr.findAsking,hk,dG,ze hq w,dI];cases b with
    |true=>
     change some (some (i,e.val))=some r at hr
     simp only[aH]at hr;subst hr;exact⟨_,rfl,.some i hv⟩
    |false=>exact ih (i+1) r hr
theorem SC{kt:TypeId}{k:Value}{es es':List MapEntry}(he:gp β es es')(w:World){r:Option (Nat×Value)}(hr:sV P kt k es=some r):
 ∃r',(Instr.findKey kt k es').run P w=.ok r' w/\ER β r r':=by
 unfold sV Instr.findKey at hr;rw[ig]at hr;cases hu:P.underlying kt with
 |none=>
  have:eB P (underlying kt)=none:=by simp[underlying,program,eB,hu,bind,Sem.bind,stuck]
  rw[this]at hr;cases hr
 |some d=>
  have:eB P (underlying kt)=some d:=by simp[underlying,program,eB,hu,bind,Sem.bind];rfl
  rw[this]at hr;simp only[iU]at hr;obtain⟨n1,n2⟩:=aam (β:=β) (kd:=d) (k:=k) he 0;simp only[Instr.findKey,dG,fJ hu,dI];split at hr
  ·rename_i r1 hr1;change some r1=some r at hr
   simp only[aH]at hr;subst hr;obtain⟨r',h1,h2⟩:=n1 _ hr1;rw[h1];exact⟨r',rfl,h2⟩
  ·rename_i hr1;rw[n2 hr1];exact aan he w 0 r hr
theorem SE{m m':Value}{es:List MapEntry}(hW:WR P β h w)(hm:VR β m m')(he:entriesOf m h=some es):
 (m=.map none/\m'=.map none/\es=[])\/∃i g es' clock clock',m=.map (some i)/\h.get i=some (.map es clock)/\β i=some g/\m'=.map (some g.b)/\w.heap[g.b]? =some (.map es' clock')/\clock'=clock/\gp β es es'.toList:=by
 unfold entriesOf at he;split at he
 ·simp only[aH]at he;subst he;left;cases hm;exact⟨rfl,rfl,rfl⟩
 ·rename_i i;split at he
  ·rename_i es1 clock hg;simp only[aH]at he;subst he;obtain⟨g,hb,rfl⟩:=hm.CB;obtain⟨es',h1,h2⟩:=hW.obj i g _ hb hg;exact .inr ⟨i,g,es',clock,clock,rfl,hg,hb,rfl,h1,rfl,h2⟩
  ·cases he
 ·cases he
theorem gp.length{l l':List MapEntry}(he:gp β l l'):l'.length=l.length:=by
 induction he with
 |nil=>rfl
 |cons _ _ _ _ _ ih=>simp[ih]
theorem xD{b:Nat}{o:Obj}(h:w.heap[b]? =some o)(hn:∀c t f,o≠.cells c t f):(getObj b).run P w=.ok o w:=by
 simp only[getObj,Sem.run,h]
theorem MJ{b:Nat}{o o0:Obj}(h:w.heap[b]? =some o0)(hn:∀c t f,o0≠.cells c t f):(setObj b o).run P w=.ok () {w with heap:=w.heap.setIfInBounds b o}:=by
 simp only[setObj,Sem.run,h]
def ES(ok:Bool)(z:Value):Option (Nat×Value)->Value
 |some (_,v)=>if ok then .tuple #[v,.bool true]else v
 |none=>if ok then .tuple #[z,.bool false]else z
theorem aao{t kt et:TypeId}(hu:P.underlying t=some (.map kt et)){m k:Value}{es:Array MapEntry}(hm:(m=.map none/\es= #[])\/∃b clock,m=.map (some b)/\w.heap[b]? =some (.map es clock))
 (hck:(Instr.checkKey es.isEmpty 10000 kt k).run P w=.ok () w) {r:Option (Nat×Value)} (hf:(Instr.findKey kt k es.toList).run P w=.ok r w) {z:Value} (hz:zeroOf P et=some z) {ok:Bool}:
 (Instr.lookup t m k ok).run P w=.ok (ES ok z r) w:=by
 rcases hm with⟨rfl,rfl⟩|⟨b,clock,rfl,hb⟩
 ·simp only[Instr.lookup,dG,fJ hu,dI,fo,hck,hf];cases r with
  |none=>simp[Cx hz,ES]
  |some p=>simp[ES]
 ·simp only[Instr.lookup,dG,fJ hu,dI,fo,xD hb (by simp),hck,hf];cases r with
  |none=>simp[Cx hz,ES]
  |some p=>simp[ES]
section
variable {dst:Option Tmp} {type:TypeId} {pos:String} {after:Array Edge} {guard:Option (Nat×Bool)} {c:aF} {ρ ρ':Operand->Value} {v:Value} {h':IH}
theorem aap{t:TypeId}{m k:Operand}{ok:Bool}(hc:cop P ⟨dst,.lookup t m k ok,type,pos,after,guard⟩=some c)(hr:c.run P ρ h=some (v,h'))(hm:VR β (ρ m) (ρ' m))(hk:VR β (ρ k) (ρ' k))(hW:WR P β h w):
 Good P β h w (execOp ρ' ⟨dst,.lookup t m k ok,type,pos,after,guard⟩) v h':=by
 simp only[cop]at hc;split at hc
 ·rename_i kt et hu;cases hz:zeroOf P et with
  |none=>simp[hz]at hc
  |some z=>
   simp only[hz,jZ,aH]at hc;subst hc;obtain⟨_,_,_,ET⟩:=Cw hz;simp only[aF.run]at hr;split at hr
   ·rename_i u hl;simp only[aH,dA]at hr;obtain⟨rfl,rfl⟩:=hr;unfold Aw at hl;split at hl
    ·cases hl
    ·rename_i es hes;cases hck:rF P kt (ρ k)with
     |false=>rw[hck]at hl;cases hl
     |true=>
      rw[hck]at hl;simp only[cond_true]at hl;have hk':=hk.qc (MI hck);cases hf:sV P kt (ρ k) es with
      |none=>rw[hf]at hl;cases hl
      |some r=>
       rw[hf]at hl;obtain⟨es',he1,he2⟩:∃es':Array MapEntry,((ρ' m=.map none/\es'= #[])\/∃b clock,ρ' m=.map (some b)/\w.heap[b]? =some (.map es' clock))/\gp β es es'.toList:=by
        rcases SE hW hm hes with⟨_,h2,h3⟩|⟨i,g,es',clock,clock',_,_,_,h4,h5,_,h6⟩
        ·subst h3;exact⟨#[],.inl ⟨h2,rfl⟩,.nil⟩
        ·exact⟨es',.inr ⟨_,_,h4,h5⟩,h6⟩
       obtain⟨r',f1,f2⟩:=SC he2 w hf;have hrun:=aao (ok:=ok) hu he1 (MH hck _ w) f1 hz;rw[<- hk']at hrun;cases f2 with
       |none=>
        simp only[aH]at hl;refine Good.same hW (xB hrun) ?_;subst hl;cases ok
        ·exact VR.free ET
        ·exact .tuple (.cons (VR.free ET) (.cons (.bool _) .nil))
       |some i hv=>
        simp only[aH]at hl;refine Good.same hW (xB hrun) ?_;subst hl;cases ok
        ·exact hv
        ·exact .tuple (.cons hv (.cons (.bool _) .nil))
   ·cases hr
 ·cases hc
end
end Go.Ideal
namespace Go.Ideal
variable {P:Program} {β:aG} {h:IH} {w:World}
theorem gp.get{l l':List MapEntry}(he:gp β l l'){i:Nat}{e:MapEntry}(hi:l[i]? =some e):∃e',l'[i]? =some e'/\e'.key=e.key/\dF e.key=true/\e'.born=e.born/\VR β e.val e'.val:=by
 induction he generalizing i with
 |nil=>simp at hi
 |cons hk hf hb hv hl ih=>
  cases i with
  |zero=>simp at hi;subst hi;exact⟨_,by simp,hk,hf,hb,hv⟩
  |succ i=>simp at hi;obtain⟨e',h1,h2⟩:=ih hi;exact⟨e',by simpa using h1,h2⟩
theorem gp.modify{l l':List MapEntry}(he:gp β l l'){f f':MapEntry->MapEntry}(i:Nat)
 (MK:∀e e',e'.key=e.key->dF e.key=true->e'.born=e.born->VR β e.val e'.val->(f' e').key=(f e).key/\dF (f e).key=true/\(f' e').born=(f e).born/\VR β (f e).val (f' e').val):
 gp β (l.modify i f) (l'.modify i f'):=by
 induction he generalizing i with
 |nil=>cases i<;>exact .nil
 |cons hk hf hb hv hl ih=>
  cases i with
  |zero=>obtain⟨a,b,c,d⟩:=MK _ _ hk hf hb hv;exact .cons a b c d hl
  |succ i=>exact .cons hk hf hb hv (ih i)
theorem gp.push{l l':List MapEntry}(he:gp β l l'){e e':MapEntry}(h1:e'.key=e.key)(h2:dF e.key=true)(h3:e'.born=e.born)(h4:VR β e.val e'.val):gp β (l++[e]) (l'++[e']):=by
 induction he with
 |nil=>exact .cons h1 h2 h3 h4 .nil
 |cons hk hf hb hv hl ih=>exact .cons hk hf hb hv ih
theorem EU{b:Nat}{o:Obj}(hb:b<w.heap.size):let w1:World:={w with heap:=w.heap.setIfInBounds b o}
 w1.heap.size=w.heap.size/\(∀x,x≠b->w1.heap[x]? =w.heap[x]?)/\w1.heap[b]? =some o:=by
 refine⟨by simp,λx hx=>?_,?_⟩
 ·show(w.heap.setIfInBounds b o)[x]? =_;rw[GI (by omega)]
 ·show(w.heap.setIfInBounds b o)[b]? =_;simp[hb]
section
variable {dst:Option Tmp} {type:TypeId} {pos:String} {after:Array Edge} {guard:Option (Nat×Bool)} {c:aF} {ρ ρ':Operand->Value} {v:Value} {h':IH}
theorem SF{t kt et:TypeId}(hu:P.underlying t=some (.map kt et)){b clock:Nat}{es:Array MapEntry}{k x:Value}(hb:w.heap[b]? =some (.map es clock))
 (hck:(Instr.checkKey false 10000 kt k).run P w=.ok () w) {r:Option (Nat×Value)} (hf:(Instr.findKey kt k es.toList).run P w=.ok r w)
 (hs:∀i v,r=some (i,v)->∃e,es[i]? =some e/\Instr.sameBits 10000 e.key k=true):
 (Instr.mapUpdate t (.map (some b)) k x).run P w=.ok () {w with heap:=w.heap.setIfInBounds b (match r with
   |some (i,_)=>.map (es.modify i λe=>{e with key:=k,val:=x}) clock
   |none=>.map (es.push {key:=k,val:=x,born:=clock}) (clock+1))}:=by
 simp only[Instr.mapUpdate,dG,fJ hu,dI,xD hb (by simp),hck,hf];cases r with
 |none=>exact MJ hb (by simp)
 |some p=>
  obtain⟨i,v⟩:=p;obtain⟨e,h1,h2⟩:=hs i v rfl;simp only[h1,jZ,wX,Instr.keyThatStays,h2,if_true,dG,fo,dI];exact MJ hb (by simp)
theorem SG{t kt et:TypeId}(hu:P.underlying t=some (.map kt et)){m m' k k' x x':Value}{h2:IH}(hr:Eu P kt m k x h=some h2)(hm:VR β m m')(hk:VR β k k')(hx:VR β x x')(hW:WR P β h w):
 ∃w',(Instr.mapUpdate t m' k' x').run P w=.ok () w'/\WR P β h2 w'/\Eff β h w β h2 w':=by
 unfold Eu at hr;split at hr
 ·rename_i i;split at hr
  ·rename_i es clock hg;obtain⟨g,hb,rfl⟩:=hm.CB;obtain⟨es',o1,o2⟩:=hW.obj i g _ hb hg;cases hck:rF P kt k with
   |false=>rw[hck]at hr;cases hr
   |true=>
    rw[hck]at hr;simp only[cond_true]at hr;have hk':=hk.qc (MI hck);subst hk';have hfree:=MI hck;have hlt:g.b<w.heap.size:=by
     rcases rD g.b w.heap.size with hh|hh
     ·exact hh
     ·rw[sM hh]at o1;cases o1
    cases hf:sV P kt k' es with
    |none=>rw[hf]at hr;cases hr
    |some r=>
     rw[hf]at hr;obtain⟨r',f1,f2⟩:=SC o2 w hf;cases f2 with
     |none=>
      simp only[aH]at hr;subst hr;have hrun:=SF (x:=x') hu o1 (MH hck false w) f1 (by simp);obtain⟨p1,p2,p3⟩:=EU (w:=w) (o:=.map (es'.push {key:=k',val:=x',born:=clock}) (clock+1)) hlt;refine⟨_,hrun,hW.write hb hg _ p1 p2 rfl rfl rfl (bB _) ⟨_,p3,?_⟩⟩;rw[jE,Array.toList_push];exact o2.push rfl hfree rfl hx
     |some j hv=>
      simp only at hr;split at hr
      ·rename_i e he;rw[qK]at he;obtain⟨e',q1,q2,q3,q4,q5⟩:=o2.get he;cases hs:Instr.sameBits 10000 e.key k' with
       |false=>rw[hs]at hr;cases hr
       |true=>
        rw[hs]at hr;simp only[cond_true,aH]at hr;subst hr;have hrun:=SF (x:=x') hu o1 (MH hck false w) f1 (λi v SH=>by
         simp only[aH,dA]at SH;obtain⟨rfl,_⟩:=SH;exact⟨e',by simpa using q1,by rw[q2];exact hs⟩)
        obtain⟨p1,p2,p3⟩:=EU (w:=w) (o:=.map (es'.modify j λe=>{e with key:=k',val:=x'}) clock) hlt;refine⟨_,hrun,hW.write hb hg _ p1 p2 rfl rfl rfl (bB _) ⟨_,p3,?_⟩⟩;rw[Sc,Array.toList_modify];exact o2.modify j λe e' a b c d=>⟨rfl,hfree,c,hx⟩
      ·cases hr
  ·cases hr
 ·cases hr
theorem aaq{t:TypeId}{m k x:Operand}(hc:cop P ⟨dst,.mapUpdate t m k x,type,pos,after,guard⟩=some c)(hr:c.run P ρ h=some (v,h'))(hm:VR β (ρ m) (ρ' m))(hk:VR β (ρ k) (ρ' k))(hx:VR β (ρ x) (ρ' x))(hW:WR P β h w):
 Good P β h w (execOp ρ' ⟨dst,.mapUpdate t m k x,type,pos,after,guard⟩) v h':=by
 simp only[cop]at hc;split at hc
 ·rename_i kt et hu;cases hc;simp only[aF.run]at hr;split at hr
  ·rename_i h2 hh;simp only[aH,dA]at hr;obtain⟨rfl,rfl⟩:=hr;obtain⟨w',r1,r2,r3⟩:=SG hu hh hm hk hx hW;exact⟨.skip,w',β,undef,Sn r1,.inr ⟨rfl,rfl⟩,.dO _,r2,r3⟩
  ·cases hr
 ·cases hc
theorem aar{t:TypeId}{m k x:Operand}(hc:cop P ⟨dst,.insert t m k x,type,pos,after,guard⟩=some c)(hr:c.run P ρ h=some (v,h'))(hm:VR β (ρ m) (ρ' m))(hk:VR β (ρ k) (ρ' k))(hx:VR β (ρ x) (ρ' x))(hW:WR P β h w):
 Good P β h w (execOp ρ' ⟨dst,.insert t m k x,type,pos,after,guard⟩) v h':=by
 simp only[cop]at hc;split at hc
 ·rename_i kt et hu;cases hc;simp only[aF.run]at hr;split at hr
  ·rename_i h2 hh;simp only[aH,dA]at hr;obtain⟨rfl,rfl⟩:=hr;obtain⟨w',r1,r2,r3⟩:=SG hu hh hm hk hx hW;exact⟨.skip,w',β,undef,Sn r1,.inr ⟨rfl,rfl⟩,.dO _,r2,r3⟩
  ·cases hr
 ·cases hc
theorem ML(hW:WR P β h w){s:Sem Next}{ob:dJ}{o':Obj}(hr:s.run P w=.ok (.value (.pointer (some ⟨w.heap.size,0,none⟩))) {w with heap:=w.heap.push o'})
 (ho:∀β':aG,β.le β'->OR P β' ⟨w.heap.size,0,0,0,0⟩ {w with heap:=w.heap.push o'} ob):Good P β h w s (.pointer (some ⟨h.next,0,none⟩)) (h.new ob):=by
 refine uM.good (f:=λi=>.pointer (some ⟨i,0,none⟩)) hW ⟨_,o',⟨w.heap.size,0,0,0,0⟩,hr,rfl,λi β' hle hi=>⟨?_,ho β' hle⟩⟩;have:=VR.ptr (β:=β') (o:=0) hi;exact this
theorem aas{t:TypeId}{x:Operand}(hc:cop P ⟨dst,.range t x,type,pos,after,guard⟩=some c)(hr:c.run P ρ h=some (v,h'))(hx:VR β (ρ x) (ρ' x))(hW:WR P β h w):
 Good P β h w (execOp ρ' ⟨dst,.range t x,type,pos,after,guard⟩) v h':=by
 simp only[cop]at hc;split at hc
 ·rename_i hu;cases hc;simp only[aF.run]at hr;split at hr
  ·rename_i s hs;simp only[aH,dA]at hr;obtain⟨rfl,rfl⟩:=hr;rw[hs]at hx;have hx':=hx.AQ;refine ML hW (o':=.stringIter s 0) ?_ λβ' _=>⟨by simp,rfl⟩
   simp[execOp,Instr.range,fJ hu,hx']
  ·cases hr
 ·rename_i kt et hu;cases hc;simp only[aF.run]at hr;split at hr
  ·rename_i hs;simp only[aH,dA]at hr;obtain⟨rfl,rfl⟩:=hr;rw[hs]at hx;have hx':ρ' x=.map none:=by generalize ρ' x=y at hx;cases hx;rfl
   refine ML hW (o':=.mapIter none 0 #[] 0) ?_ λβ' _=>⟨none, #[],by simp,rfl,.xz,rfl⟩
   simp[execOp,Instr.range,fJ hu,hx']
  ·rename_i m hs;split at hr
   ·rename_i es clock hg;simp only[aH,dA]at hr;obtain⟨rfl,rfl⟩:=hr;rw[hs]at hx;obtain⟨g,hb,hx'⟩:=hx.CB;obtain⟨es',o1,o2⟩:=hW.obj m g _ hb hg;refine ML hW (o':=.mapIter (some g.b) clock #[] clock) ?_ λβ' hle=>⟨some g.b, #[],by simp,rfl,.map (hle _ _ hb),rfl⟩
    simp only[execOp,Instr.range,dG,fJ hu,dI,hx',xD o1 (by simp),fo,run_newObj]
   ·cases hr
  ·cases hr
 ·cases hc
theorem find_born{l l':List MapEntry}(he:gp β l l')(n:Nat):match l.find? (λe=>Nat.beq e.born n)with
 |none=>l'.find? (λe=>e.born==n)=none
 |some e=>∃e',l'.find? (λe=>e.born==n)=some e'/\e'.key=e.key/\dF e.key=true/\VR β e.val e'.val:=by
 induction he with
 |nil=>rfl
 | @cons e e' l l' hk hf hb hv hl ih=>
   simp only[List.find?_cons,hb];cases hq:Nat.beq e.born n with
   |true=>
    have:(e.born==n)=true:=by simp[qC hq]
    simp only[this];exact⟨e',rfl,hk,hf,hv⟩
   |false=>
    have:(e.born==n)=false:=by simp[Ej hq]
    simp only[this];exact ih
theorem aat{x:Operand}(hc:cop P ⟨dst,.entry x,type,pos,after,guard⟩=some c)(hr:c.run P ρ h=some (v,h'))(hx:VR β (ρ x) (ρ' x))(hW:WR P β h w):
 Good P β h w (execOp ρ' ⟨dst,.entry x,type,pos,after,guard⟩) v h':=by
 simp only[cop,aH]at hc;subst hc;simp only[aF.run]at hr;split at hr
 ·rename_i r hs;split at hr
  ·rename_i m since seen stepped hg;split at hr
   ·rename_i es clock hgm;split at hr
    ·rename_i stamp hst;cases hbq:Nat.beq clock stepped with
     |false=>rw[hbq]at hr;cases hr
     |true=>
      rw[hbq]at hr;simp only[cond_true]at hr;split at hr
      ·rename_i e he;simp only[aH,dA]at hr;obtain⟨rfl,rfl⟩:=hr;rw[hs]at hx;obtain⟨g,hb,hx'⟩:=hx.uN;obtain⟨m',seen',o1,o2,o3,o4⟩:=hW.obj r g _ hb hg;rw[o4]at hx';obtain⟨gm,MM,hm'⟩:∃gm,β m=some gm/\m'=some gm.b:=by
        obtain⟨gm,a,b⟩:=o3.CB;exact⟨gm,a,by simpa using b⟩
       subst hm';obtain⟨es',p1,p2⟩:=hW.obj m gm _ MM hgm;have SI:=find_born p2 stamp;rw[he]at SI;obtain⟨e',q1,q2,q3,q4⟩:=SI;have hback:seen'.back? =some stamp:=by
        rw[<- Array.getLast?_toList,o2];exact hst
       have hcl:(clock !=stepped)=false:=by simp[qC hbq]
       have hfa:es'.find? (λe=>e.born==stamp)=some e':=by rw[<- Array.find?_toList];exact q1
       refine Good.same hW (v':=.tuple #[e'.key,e'.val]) ?_ (.tuple (.cons ?_ (.cons q4 .nil)))
       ·simp only[execOp,Instr.entry,Af,dG,hx',xD o1 (by simp),xD p1 (by simp),dI,hback,hcl,hfa,fo,uE,if_false]
       ·rw[q2];exact VR.free q3
      ·cases hr
    ·cases hr
   ·cases hr
  ·cases hr
 ·cases hr
theorem aau{x:Operand}{xt t:TypeId}{ok:Bool}(hc:cop P ⟨dst,.typeAssert x xt t ok,type,pos,after,guard⟩=some c)(hr:c.run P ρ h=some (v,h'))(hx:VR β (ρ x) (ρ' x))(hW:WR P β h w):
 Good P β h w (execOp ρ' ⟨dst,.typeAssert x xt t ok,type,pos,after,guard⟩) v h':=by
 simp only[cop]at hc;split at hc
 ·cases hc
 ·rename_i d hni hu;cases hz:zeroOf P t with
  |none=>simp[hz]at hc
  |some z=>
   simp only[hz,jZ,aH]at hc;subst hc;obtain⟨_,_,_,ET⟩:=Cw hz;simp only[aF.run]at hr;split at hr
   ·rename_i hs;rw[hs]at hx;have hx':ρ' x=.nilIface:=by generalize ρ' x=y at hx;cases hx;rfl
    cases ok with
    |false=>cases hr
    |true=>
     simp only[cond_true,aH,dA]at hr;obtain⟨rfl,rfl⟩:=hr;refine Good.same hW (v':=.tuple #[z,.bool false]) ?_ (.tuple (.cons (VR.free ET) (.cons (.bool _) .nil)));simp only[execOp,Instr.typeAssert,dG,fJ hu,dI,hx',if_true,Cx hz,fo]
   ·rename_i u y hs;rw[hs]at hx;obtain⟨y',hy,hx'⟩:=hx.AU;cases hbq:Nat.beq u t with
    |true=>
     have hut:u=t:=qC hbq;rw[hbq]at hr;simp only[cond_true,aH,dA]at hr;obtain⟨rfl,rfl⟩:=hr;refine Good.same hW (v':=if ok then .tuple #[y',.bool true]else y') ?_ ?_
     ·simp only[execOp,Instr.typeAssert,dG,fJ hu,dI,hx',hut];cases d<;>first|exact absurd rfl (hni _)|simp
     ·cases ok
      ·exact hy
      ·exact .tuple (.cons hy (.cons (.bool _) .nil))
    |false=>
     have hut:u≠t:=Ej hbq;rw[hbq]at hr;cases ok with
     |false=>cases hr
     |true=>
      simp only[cond_true,cond_false,aH,dA]at hr;obtain⟨rfl,rfl⟩:=hr;refine Good.same hW (v':=.tuple #[z,.bool false]) ?_ (.tuple (.cons (VR.free ET) (.cons (.bool _) .nil)));simp only[execOp,Instr.typeAssert,dG,fJ hu,dI,hx'];cases d<;>first|exact absurd rfl (hni _)|simp[hut,Cx hz]
   ·cases hr
 ·cases hc
end
