/-
  Part IdealCW.
-/
import Derived.Test.YtfakljdleblkoaaGreatIdealBW
import Derived.Laws.BytesString
import Derived.Recover
import Derived.RangeFuncRecord
set_option linter.all false
namespace Go.Ideal
variable {P:Program} {β:aC} {h:IH} {w:World}
theorem XP(v:Value)(l:List Value):FX (v::l)=match v,FX l with
 | .int .u8 k,some r=>some (UInt8.ofNat k.toNat::r)
 |_,_=>none:=rfl
theorem XQ{cs:List Value}{bs:List UInt8}(h:FX cs=some bs):∃ns:List Int,cs=ns.map (Value.int .u8)/\bs=ns.map λn=>UInt8.ofNat n.toNat:=by
 induction cs generalizing bs with
 |nil=>change some []=some bs at h;simp only[aA]at h;exact⟨[],rfl,by rw[<- h];rfl⟩
 |cons v l ih=>
  rw[XP]at h;split at h
  ·rename_i k r hr;simp only[aA]at h;obtain⟨ns,h1,h2⟩:=ih hr;exact⟨k::ns,by simp[h1],by simp[<- h,h2]⟩
  ·cases h
theorem XR(ns:List Int):∀(r:ByteArray),ns.foldl (λr n=>r.push (UInt8.ofNat n.toNat)) r=⟨r.data++(ns.map λn=>UInt8.ofNat n.toNat).toArray⟩:=by
 induction ns with
 |nil=>intro r;simp
 |cons n ns ih=>intro r;simp only[tN];rw[ih];simp[ByteArray.push]
theorem XT{ns:List Int}{l':List Value}(h:aZ β (ns.map (Value.int .u8)) l'):l'=ns.map (Value.int .u8):=by
 induction ns generalizing l' with
 |nil=>cases h;rfl
 |cons n ns ih=>cases h with|cons hv hl=>rw[hv.mF,ih hl];rfl
section
variable {dst:Option Tmp} {type:TypeId} {pos:String} {after:Array Edge} {guard:Option (Nat×Bool)} {c:aB} {ρ ρ':Operand->Value} {v:Value} {h':IH}
variable{x:Operand}
theorem XU{s d:TypeId}(hc:cop P ⟨dst,.convert s d x,type,pos,after,guard⟩=some c)(hr:c.run P ρ h=some (v,h'))(hx:VR β (ρ x) (ρ' x))(hW:WR P β h w):
 Good P β h w (execOp ρ' ⟨dst,.convert s d x,type,pos,after,guard⟩) v h':=by
 have XV:∀y,c=.conv s d y->y=x->Good P β h w (execOp ρ' ⟨dst,.convert s d x,type,pos,after,guard⟩) v h':=by
  rintro y rfl rfl;simp only[aB.run]at hr;cases hf:bY (ρ y)with
  |false=>rw[hf]at hr;cases hr
  |true=>
   exact fW
 simp only[cop]at hc;split at hc
 ·cases hc
 ·rename_i e hs hd;split at hc
  ·rename_i he;cases hc;simp only[aB.run]at hr;split at hr
   ·rename_i n k ha;simp only[aA,cO]at hr;obtain⟨rfl,rfl⟩:=hr;rw[ha]at hx;have hx':ρ' x=.slice none n k:=by generalize ρ' x=y at hx;cases hx;rfl
    refine Good.same hW (v':=.string .empty) ?_ (.string _);have:=run_convert_bytes_string (P:=P) w s d e none n k hs he hd;simp only[execOp,hx',dz,this];simp[Conv.bytesToString]
   ·rename_i i o f n k ha;split at hr
    ·rename_i cs hcs;split at hr
     ·rename_i bs hbs;simp only[aA,cO]at hr;obtain⟨rfl,rfl⟩:=hr;rw[ha]at hx;obtain⟨g,a,c',hg,hx',ha1,ha2,hn,hcc,hoff,_⟩:=hx.nI;obtain⟨cs0,q1,q2⟩:=Bq hcs;obtain⟨m1,m2,l',m3,m4⟩:=F7 hW hg q1 q2;obtain⟨ns,n1,n2⟩:=XQ hbs;subst n1;have hl':=XT m3;subst hl';have hload:(loadCells a n).run P w=.ok (ns.map (Value.int .u8)).toArray w:=by
       rcases hoff with h0|⟨h0,ha2⟩
       ·have hn0:n=0:=by omega
        subst hn0;have:ns=[]:=by
         cases ns with
         |nil=>rfl
         |cons x l=>simp at m1
        subst this;simp[loadCells,loadCellsFrom]
       ·obtain⟨ab,ao,as⟩:=a;simp only at ha1 ha2 h0;subst ha1 ha2 h0;have:=Kj (P:=P) (w:=w) (b:=g.b) (o:=g.off+o) m1 m4;simpa using this
      refine Good.same hW (v':=.string ⟨⟨bs⟩⟩) ?_ (.string _);simp only[execOp,hx',dz,run_convert_bytes_string (P:=P) w s d e (some a) n c' hs he hd,run_bytesToString w a n c' ns hload,dD,eX,XR,n2];have he0:ByteArray.empty.data= #[]:=rfl;rw[he0];simp
     ·cases hr
    ·cases hr
   ·cases hr
  ·cases hc
 ·cases hc
 ·simp only[aA]at hc;exact XV x hc.symm rfl
 ·cases hc
theorem XW{t:TypeId}{y:Operand}(hc:cop P ⟨dst,.index t x y,type,pos,after,guard⟩=some c)(hr:c.run P ρ h=some (v,h'))(hx:VR β (ρ x) (ρ' x))(hy:VR β (ρ y) (ρ' y))(hW:WR P β h w):
 Good P β h w (execOp ρ' ⟨dst,.index t x y,type,pos,after,guard⟩) v h':=by
 simp only[cop]at hc;split at hc
 ·rename_i n e hu;split at hc
  ·rename_i s d hs hd;cases hc;obtain⟨hs1,hs2⟩:=sG hs;simp only[aB.run]at hr;split at hr
   ·rename_i cs k i ha hi;rw[ha]at hx;rw[hi]at hy;obtain⟨cs',h1,h2,hx'⟩:=hx.Km;have hy':=hy.mF;cases hb:Nat.blt i n with
    |false=>rw[hb]at hr;cases hr
    |true=>
     rw[hb]at hr;simp only[cond_true]at hr;have hlt:i<n:=yb
     have hr':h'=h/\(match jL P e with
      |true=>match jd (jE cs (i*s)) s with
       |some l=>some (.agg ⟨l⟩:Value)
       |none=>none
      |false=>jD cs (i*s))=some v:=by
      cases hagg:jL P e with
      |true=>
       rw[hagg]at hr;simp only at hr⊢;split at hr
       ·rename_i l hl;have hl:jd (jE cs (i*s)) s=some l:=hl;exact mc
       ·cases hr
      |false=>
       rw[hagg]at hr;simp only at hr⊢;split at hr
       ·rename_i l hl;have hl:jD cs (i*s)=some l:=hl;exact mc
       ·cases hr
     obtain⟨rfl,hr2⟩:=hr';obtain⟨v',p1,p2⟩:=PL hd hs1 h1 h2 hr2 w;refine Good.same hW (v':=v') ?_ p2;simp only[execOp,Instr.index,dz,fE hu,dD,hx',hy',asIntOf,eX,mE hs1];rw[if_pos ⟨vm,wx⟩];simp[mE hs1,p1]
   ·cases hr
  ·cases hc
 ·rename_i hu;cases hc;simp only[aB.run]at hr;split at hr
  ·rename_i s k i ha hi;rw[ha]at hx;rw[hi]at hy;have hx':=hx.zG;have hy':=hy.mF;split at hr
   ·rename_i b hb;simp only[aA,cO]at hr;obtain⟨rfl,rfl⟩:=hr;rw[ql]at hb;refine Good.same hW (v':=.int .u8 b.toNat) ?_ (.int _ _);have hlt:i<s.size:=by
     have:=(bC.1 hb).1;exact this
    have hb2:s[i]? =some b:=by
     rw[getElem?_pos s i hlt];exact congrArg some (bC.1 hb).2
    simp only[execOp,Instr.index,dz,fE hu,dD,hx',hy',asIntOf,eX];have h0:(0:Int)<=Int.ofNat i:=vm
    rw[if_pos h0];simp only[Int.ofNat_eq_natCast,gy,hb2];rfl
   ·cases hr
  ·cases hr
 ·cases hc
theorem yj(b:Builtin)(args:Array Operand)(ats:Array TypeId)(ρ:Operand->Value):
 execOp ρ ⟨dst,.call {callee:=.builtin b,args,argTypes:=ats},type,pos,after,guard⟩=builtin b ats type (args.map λ| .const _=>true|_=>false) (args.map ρ):=rfl
variable{args:Array Operand}{ats:Array TypeId}
theorem XX(ha:args.toList=[x])(hc:cop P ⟨dst,.call {callee:=.builtin .len,args,argTypes:=ats},type,pos,after,guard⟩=some c)
 (hr:c.run P ρ h=some (v,h')) (hx:VR β (ρ x) (ρ' x)) (hW:WR P β h w):
 Good P β h w (execOp ρ' ⟨dst,.call {callee:=.builtin .len,args,argTypes:=ats},type,pos,after,guard⟩) v h':=by
 obtain rfl:args= #[x]:=As
 rw[yj];simp only[cop]at hc;split at hc
 ·rename_i t ht;have hm:(#[x].map ρ')= #[ρ' x]:=by simp
  rw[hm];split at hc
  ·rename_i hu;cases hc;simp only[aB.run]at hr;split at hr
   ·rename_i s hs;simp only[aA,cO]at hr;obtain⟨rfl,rfl⟩:=hr;rw[hs]at hx;refine Good.same hW (v':=goInt s.size) ?_ (.int _ _);simp[builtin,Builtin.len_,ht,hx.zG,fE hu]
   ·cases hr
  ·rename_i n e hu;cases hc;simp only[aB.run,aA,cO]at hr;obtain⟨rfl,rfl⟩:=hr;refine Good.same hW (v':=goInt n) ?_ (.int _ _);simp[builtin,Builtin.len_,ht,fE hu]
  ·rename_i p hu;split at hc
   ·rename_i n e hu2;cases hc;simp only[aB.run,aA,cO]at hr;obtain⟨rfl,rfl⟩:=hr;refine Good.same hW (v':=goInt n) ?_ (.int _ _);simp[builtin,Builtin.len_,ht,fE hu,fE hu2]
   ·cases hc
  ·rename_i e hu;cases hc;simp only[aB.run]at hr;split at hr
   ·rename_i a n k hs;simp only[aA,cO]at hr;obtain⟨rfl,rfl⟩:=hr;rw[hs]at hx;have hx':∃a' k',ρ' x=.slice a' n k':=by generalize ρ' x=y at hx;cases hx<;>exact⟨_,_,rfl⟩
    obtain⟨a',k',hx'⟩:=hx';refine Good.same hW (v':=goInt n) ?_ (.int _ _);simp[builtin,Builtin.len_,ht,hx',fE hu]
   ·cases hr
  ·rename_i kt et hu;cases hc;simp only[aB.run]at hr;split at hr
   ·rename_i es hes;simp only[aA,cO]at hr;obtain⟨rfl,rfl⟩:=hr;refine Good.same hW (v':=goInt (iF es)) ?_ (.int _ _);rcases PN hW hx hes with⟨_,h2,h3⟩|⟨i,g,es',clock,clock',_,_,_,h4,h5,_,h6⟩
    ·subst h3;simp[builtin,Builtin.len_,ht,h2,fE hu];rfl
    ·have hsz:es'.size=iF es:=by rw[wJ,<- Array.length_toList];exact h6.length
     simp[builtin,Builtin.len_,ht,h4,fE hu,wO h5,hsz]
   ·cases hr
  ·cases hc
 ·cases hc
theorem XY(ha:args.toList=[x])(hc:cop P ⟨dst,.call {callee:=.builtin .cap,args,argTypes:=ats},type,pos,after,guard⟩=some c)
 (hr:c.run P ρ h=some (v,h')) (hx:VR β (ρ x) (ρ' x)) (hW:WR P β h w):
 Good P β h w (execOp ρ' ⟨dst,.call {callee:=.builtin .cap,args,argTypes:=ats},type,pos,after,guard⟩) v h':=by
 obtain rfl:args= #[x]:=As
 rw[yj];simp only[cop]at hc;split at hc
 ·rename_i t ht;have hm:(#[x].map ρ')= #[ρ' x]:=by simp
  rw[hm];split at hc
  ·rename_i e hu;cases hc;simp only[aB.run]at hr;split at hr
   ·rename_i n k hs;simp only[aA,cO]at hr;obtain⟨rfl,rfl⟩:=hr;rw[hs]at hx;have hx':ρ' x=.slice none n k:=by generalize ρ' x=y at hx;cases hx;rfl
    refine Good.same hW (v':=goInt k) ?_ (.int _ _);simp[builtin,Builtin.cap_,ht,hx',fE hu]
   ·rename_i i o n k hs;simp only[aA,cO]at hr;obtain⟨rfl,rfl⟩:=hr;rw[hs]at hx;obtain⟨g,a,c',hg,hx',_,_,_,_,_,hk⟩:=hx.nI;have hck:c'=k:=by
     rcases hk with hk|hk
     ·exact hk.2
     ·have:=hk.1;simp at this;omega
    subst hck;refine Good.same hW (v':=goInt c') ?_ (.int _ _);simp[builtin,Builtin.cap_,ht,hx',fE hu]
   ·cases hr
  ·cases hc
 ·cases hc
theorem PT{mx:Bool}{xs ys:List Value}{v:Value}{h':IH}{args:List Operand}(hl:lT ρ args=xs)(hr:(aB.Bb mx args).run P ρ h=some (v,h'))(hxs:aZ β xs ys)(hW:WR P β h w):
 h'=h/\VR β v v/\(cond mx (Builtin.max_ #[] 0 ⟨ys⟩) (Builtin.min_ #[] 0 ⟨ys⟩)).run P w=.ok v w:=by
 simp only[aB.run,hl]at hr;split at hr
 ·rename_i j a k b;cases hk:uZ j k with
  |false=>rw[hk]at hr;cases hr
  |true=>
   have:=PG hk;subst this;rw[hk]at hr;simp only[cond_true,aA,cO]at hr;obtain⟨rfl,rfl⟩:=hr;refine⟨rfl,.int _ _,?_⟩;cases hxs with
   |cons h1 h2=>cases h2 with
    |cons h2 h3=>
     cases h3;rw[h1.mF,h2.mF];cases mx
     ·simp only[cond_false,Builtin.min_,List.foldlM_cons,List.foldlM_nil,Builtin.min2,af2];simp only[dz,eX,dD,pure_bind,bind_pure];congr 2;by_cases hab:a<=b
      ·rw[if_neg vj];simp[hab]
      ·rw[if_pos vj];simp[hab]
     ·simp only[cond_true,Builtin.max_,List.foldlM_cons,List.foldlM_nil,Builtin.max2,af2];simp only[dz,eX,dD,pure_bind,bind_pure];congr 2;by_cases hab:b<=a
      ·rw[if_neg vj];simp[hab]
      ·rw[if_pos vj];simp[hab]
 ·cases hf:fO xs with
  |false=>rw[hf]at hr;cases hr
  |true=>
   rw[hf]at hr;simp only[cond_true]at hr;split at hr
   ·rename_i u hu;simp only[aA,cO]at hr;obtain⟨rfl,rfl⟩:=hr;obtain⟨h1,h2⟩:=Dq hu;rw[hxs.pF hf];exact⟨rfl,VR.free h2,x8 h1 w⟩
   ·cases hr
theorem PU{b:Builtin}(hb:b=.min\/b=.max)(hc:cop P ⟨dst,.call {callee:=.builtin b,args,argTypes:=ats},type,pos,after,guard⟩=some c)
 (hr:c.run P ρ h=some (v,h')) (hx:∀x∈args.toList,VR β (ρ x) (ρ' x)) (hW:WR P β h w):
 Good P β h w (execOp ρ' ⟨dst,.call {callee:=.builtin b,args,argTypes:=ats},type,pos,after,guard⟩) v h':=by
 rw[yj];have hxs:aZ β (lT ρ args.toList) (args.toList.map ρ'):=aZ.of_map hx;have hargs:args.map ρ'=⟨args.toList.map ρ'⟩:=by apply Array.ext';rw[JK]
 rw[hargs];rcases hb with rfl|rfl
 ·have:c=.Bb false args.toList:=by
   simp only[cop]at hc;exact sY
  subst this;obtain⟨rfl,m2,m3⟩:=PT rfl hr hxs hW;refine Good.same hW (v':=v) ?_ m2;have m3:(Builtin.min_ ats type ⟨args.toList.map ρ'⟩).run P w=.ok v w:=m3;simp only[builtin,dz,m3,dD,eX]
 ·have:c=.Bb true args.toList:=by
   simp only[cop]at hc;exact sY
  subst this;obtain⟨rfl,m2,m3⟩:=PT rfl hr hxs hW;refine Good.same hW (v':=v) ?_ m2;have m3:(Builtin.max_ ats type ⟨args.toList.map ρ'⟩).run P w=.ok v w:=m3;simp only[builtin,dz,m3,dD,eX]
end
end Go.Ideal
namespace Go.Ideal
variable {P:Program} {β:aC} {h:IH} {w:World}
variable{size n:Nat}{xs:List Value}
theorem Gf{m:Nat}{x x':Value}(hf:mX size n x h=some xs)(hl:oH x=some m)(hnm:n<=m)(hx:VR β x x')(hW:WR P β h w):
 ∃xs',aZ β xs xs'/\xs.all cellV=true/\xs.length=n*size/\(∀w1,(Builtin.lenOf x').run P w1=.ok m w1)/\∀w1:World,w1.heap=w.heap->(Builtin.firstCells size n x').run P w1=.ok ⟨xs'⟩ w1:=by
 unfold mX at hf;split at hf
 ·rename_i i o f len cap;simp only[oH,aA]at hl;subst hl;obtain⟨g,a,c',hg,rfl,ha1,ha2,hn,hcc,hoff,_⟩:=hx.nI;obtain⟨cs0,q1,q2⟩:=Bq hf;obtain⟨m1,m2,l',m3,m4⟩:=F7 hW hg q1 q2;refine⟨l',m3,m2,m1,λw1=>rfl,λw1 hw1=>?_⟩;have hll:l'.length=n*size:=m3.length.trans m1;rcases hoff with h0|⟨h0,ha2⟩
  ·have hn0:n=0:=by omega
   subst hn0;have:l'=[]:=by
    cases l' with
    |nil=>rfl
    |cons x l=>simp at hll
   subst this;simp[Builtin.firstCells,loadCells,loadCellsFrom]
  ·obtain⟨ab,ao,as⟩:=a;simp only at ha1 ha2 h0;subst ha1 ha2 h0;exact run_firstCells_some w1 size n _ _ _ l' hll λj v hj=>by
    rw[addr_add,<- m4 j v hj];simp only[World.cell?,hw1]
 ·rename_i len cap;simp only[oH,aA]at hl;subst hl;have hx':x'=.slice none len cap:=by cases hx;rfl
  rw[hx'];clear hx hx';split at hf
  ·simp only[aA]at hf;subst hf;exact⟨[],.nil,rfl,vm,λ_=>rfl,λw1 _=>by simp[Builtin.firstCells]⟩
  ·cases hf
 ·rename_i s;simp only[oH,aA]at hl;subst hl;obtain rfl:=hx.zG;cases hsz:Nat.beq size 1 with
  |false=>rw[hsz]at hf;cases hf
  |true=>
  have hsz1:size=1:=p9 hsz;subst hsz1;rw[hsz]at hf;simp only[cond_true]at hf;rw[sD]at hf;split at hf
  ·rename_i l hl;split at hl
   ·rename_i hle;simp only[aA]at hf hl;subst hf hl;have hfree:fO (lT (λb:UInt8=>Value.int .u8 b.toNat) (s.data.toList.take n))=true:=by
     rw[wI];generalize s.data.toList.take n=l;induction l with
     |nil=>rfl
     |cons b l ih=>simp[fO,bY,cellV,ih]
    refine⟨_,aZ.free hfree,ug hfree,?_,λ_=>rfl,λw1 _=>?_⟩
    ·rw[wI];simp at hle⊢;omega
    ·rw[wI];simp only[Builtin.firstCells,eX];congr 1;apply Array.ext';simp[ByteArray.data_extract,OO]
   ·cases hl
  ·cases hf
 ·cases hf
theorem XZ(b:Nat)(o:Nat)(vs:List Value):(w.setCells b o vs).heap.size=w.heap.size/\(∀x,x≠b->(w.setCells b o vs).heap[x]? =w.heap[x]?)/\
 ((∃c t fz,w.heap[b]? =some (.cells c t fz))->∃c t fz,(w.setCells b o vs).heap[b]? =some (.cells c t fz))/\(w.setCells b o vs).tape=w.tape/\(w.setCells b o vs).os=w.os/\(w.setCells b o vs).output=w.output:=by
 refine⟨?_,?_,?_,?_,?_,?_⟩
 ·induction vs generalizing o w with
  |nil=>rfl
  |cons v vs ih=>show((w.setCell ⟨b,o,none⟩ v).setCells b (o+1) vs).heap.size=_;rw[ih];simp
 ·induction vs generalizing o w with
  |nil=>intro x _;rfl
  |cons v vs ih=>intro x hx;show((w.setCell ⟨b,o,none⟩ v).setCells b (o+1) vs).heap[x]? =_;rw[ih _ x hx,Go.RowKit.Below.heap_setCell _ _ _ _ hx]
 ·induction vs generalizing o w with
  |nil=>exact id
  |cons v vs ih=>
   rintro⟨c,t,fz,hh⟩;refine ih (w:=w.setCell ⟨b,o,none⟩ v) _ ⟨c.setIfInBounds o v,t,fz,?_⟩;simp[World.setCell,Array.getElem?_modify,hh]
 ·induction vs generalizing o w with
  |nil=>rfl
  |cons v vs ih=>show((w.setCell ⟨b,o,none⟩ v).setCells b (o+1) vs).tape=_;rw[ih];rfl
 ·exact(OI b (may:=λ_=>True) vs o w (λ_ _=>trivial)).1
 ·exact(OI b (may:=λ_=>True) vs o w (λ_ _=>trivial)).2.1
variable{ats:Array TypeId}{ty st xt e:TypeId}{xd:TypeDesc}
theorem KF(h0:ats[0]? =some st)(h1:ats[1]? =some xt)(hu:P.underlying st=some (.slice e))(hx:P.underlying xt=some xd)(hni:∀k,xd≠.int k)
 (hs:jm P e=some size) {base:Option Addr} {len cap n:Nat} {x:Value} (hl:∀w,(Builtin.lenOf x).run P w=.ok n w) (hle:len+n<=cap) {xs:List Value} (hf:(Builtin.firstCells size n x).run P w=.ok ⟨xs⟩ w)
 {w':World} (hst:(match base with|some a=>storeCells (a.add (len*size)) xs|none=>pure ()).run P w=.ok () w'):
 (Builtin.append_ ats ty #[.slice base len cap,x]).run P w=.ok (.slice base (len+n) cap) w':=by
 have hz:(match xd with| .int _=>true|_=>false)=false:=CA
 simp only[Builtin.append_,h0,h1,JM,zi,qI,dz,fE hu,fE hx,mE hs,dD,eX,hz,uS,if_false,hl,hle,if_true,Bool.not_false,hf];cases base with
 |none=>cases hst;rfl
 |some a=>simp only[dz,hst,dD,eX]
theorem X0{i:TypeInfo}{z:Value}(h0:ats[0]? =some st)(h1:ats[1]? =some xt)(hu:P.underlying st=some (.slice e))(hx:P.underlying xt=some xd)(hni:∀k,xd≠.int k)
 (hs:jm P e=some size) (hi:P.info? e=some i) (hz:i.zero=some z) (hzl:z.cells.size=size) {base:Option Addr} {len cap n:Nat} {x:Value} (hl:∀w,(Builtin.lenOf x).run P w=.ok n w) (hgt:cap<len+n)
 (hb:0<i.bytes) (hfit:(len+n)*i.bytes<=1073741824) {xs olds:List Value} (hf:∀w1:World,w1.heap=w.heap->(Builtin.firstCells size n x).run P w1=.ok ⟨xs⟩ w1) (hfo:∀w1:World,w1.heap=w.heap->(Builtin.firstCells size len (.slice base len cap)).run P w1=.ok ⟨olds⟩ w1):
 ∃c rest,len+n<=c/\rest.length=(c - (len+n))*size/\
  (Builtin.append_ ats ty #[.slice base len cap,x]).run P w=.ok (.slice (some ⟨w.heap.size,0,none⟩) (len+n) c) {w.drew with heap:=w.heap.push (.cells ⟨olds++xs++rest⟩ e)}:=by
 have hz0:(match xd with| .int _=>true|_=>false)=false:=CA
 have hn:¬(len+n<=cap):=vj
 have hnb:len+n<=(len+n)*i.bytes:=Nat.le_mul_of_pos_right _ hb;have h63':¬(9223372036854775807<((len:Int)+(n:Int))):=vj
 have h48':¬(281474976710656<Builtin.nextslicecap (len+n) cap*i.bytes):=by
  have:=growslice_fits (need:=len+n) (old:=cap) (bytes:=i.bytes) hgt vj;omega
 refine⟨grownCap w (len+n) cap e,(Builtin.zeroCells z.cells (grownCap w (len+n) cap e - (len+n))).toList,?_,?_,?_⟩
 ·unfold grownCap Question.cut;exact Nat.le_add_right _ _
 ·simp[Builtin.zeroCells,hzl]
 ·have hf':=hf w.drew rfl;have X3:=hfo w.drew rfl;have hsz:i.size=size:=by simpa[jm,hi]using hs
  simp[Builtin.append_,h0,h1,fE hu,fE hx,sizeOf,typeInfo,zeroValue,hi,hz,hl,hn,h63',h48',Question.forced,hz0,hsz,hf',X3,newRow,grownCap];have:∀Z:Array Value,((⟨olds⟩:Array Value)++((⟨xs⟩:Array Value)++Z))=⟨olds++(xs++Z.toList)⟩:=λZ=>by apply Array.ext';simp
  rw[this];rfl
theorem X4{bytes:Nat}{s v:Value}{h':IH}(hr:wE size bytes s n xs h=some (v,h')):∃base len cap,s=.slice base len cap/\(len+n)*bytes<=small/\(len+n)*size<=small/\
 ((len+n<=cap/\((∃i o f,base=some ⟨i,o,f⟩/\h.storeAt i (o+len*size) xs=some h'/\v=.slice (some ⟨i,o,f⟩) (len+n) cap)\/(base=none/\n=0/\h'=h/\v=.slice none (len+n) cap)))\/
   (¬len+n<=cap/\∃old,mX size len s h=some old/\v=.slice (some ⟨h.next,0,some size⟩) (len+n) (len+n)/\
     ((∃i o,base=some ⟨i,o,some size⟩/\0<size/\h'=(h.kill i).new (.cells (jY old xs)))\/((∀i o k,base≠some ⟨i,o,some (k+1)⟩)/\h'=h.new (.cells (jY old xs)))))):=by
 unfold wE at hr;split at hr
 ·rename_i base len cap;simp only at hr;cases hc:(((len.add n).mul bytes).ble small&&((len.add n).mul size).ble small&&(len.add n).ble small)with
  |false=>rw[hc]at hr;cases hr
  |true=>
   rw[hc]at hr;simp only[cond_true]at hr;simp only[eB]at hc;refine⟨base,len,cap,rfl,mD hc.1.1,mD hc.1.2,?_⟩;cases hle:Nat.ble (len.add n) cap with
   |true=>
    rw[hle]at hr;simp only[cond_true]at hr;refine .inl ⟨mD hle,?_⟩;split at hr
    ·rename_i i o f;split at hr
     ·rename_i h2 hst;simp only[aA,cO]at hr;obtain⟨rfl,rfl⟩:=hr;exact .inl ⟨i,o,f,rfl,hst,rfl⟩
     ·cases hr
    ·split at hr
     ·simp only[aA,cO]at hr;obtain⟨rfl,rfl⟩:=hr;exact .inr ⟨rfl,rfl,rfl,rfl⟩
     ·cases hr
   |false=>
    rw[hle]at hr;simp only[cond_false]at hr;refine .inr ⟨λhh=>?_,?_⟩
    ·have:Nat.ble (len.add n) cap=true:=Fv hh;rw[this]at hle;cases hle
    ·split at hr
     ·cases hr
     ·rename_i old hold;refine⟨old,hold,?_⟩;split at hr
      ·rename_i i o k;cases hb:Nat.beq (Nat.succ k) size with
       |false=>rw[hb]at hr;cases hr
       |true=>
        have hk:k+1=size:=p9 hb;rw[hb]at hr;simp only[cond_true,aA,cO]at hr;obtain⟨rfl,rfl⟩:=hr;have hk2:k.succ=size:=hk;exact⟨rfl,.inl ⟨i,o,by rw[hk2],vj,rfl⟩⟩
      ·rename_i hnot;simp only[aA,cO]at hr;obtain⟨rfl,rfl⟩:=hr;exact⟨rfl,.inr ⟨λi o k hh=>hnot i o k hh,rfl⟩⟩
 ·cases hr
theorem KG(hW:WR P β h w){i o d:Nat}{g:iD}{a:Addr}(hg:β i=some g)(ha1:a.block=g.b){vs vs':List Value}(hoff:vs=[]\/(a.off=g.off+o/\a.spot=none)){h':IH}(hs:h.storeAt i (o+d) vs=some h')(hv:aZ β vs vs')(hall:vs.all cellV=true):
 ∃w',(∀k,k=0->(storeCells (a.add d) vs' k).run P w=.ok () w')/\WR P β h' w'/\Eff β h w β h' w':=by
 obtain⟨m1,m2,m3⟩:=Kl hW hg hs hv hall;refine⟨_,λk hk=>?_,m2,m3⟩;subst hk;rcases hoff with h0|⟨h0,ha2⟩
 ·subst h0;cases hv;rfl
 ·obtain⟨ab,ao,as⟩:=a;simp only at ha1 ha2 h0;subst ha1 ha2 h0;rw[addr_add,qb];exact m1 0 rfl
section
variable {dst:Option Tmp} {type:TypeId} {pos:String} {after:Array Edge} {guard:Option (Nat×Bool)} {c:aB} {ρ ρ':Operand->Value} {v:Value} {h':IH}
variable{size:Nat}
theorem X5{n:Nat}{x x':Value}{xs:List Value}(hf:xV size n x h=some xs)(hl:oH x=some n)(hx:VR β x x')(hW:WR P β h w):
 ∃xs',aZ β xs xs'/\xs.all cellV=true/\xs.length=n*size/\(∀w1,(Builtin.lenOf x').run P w1=.ok n w1)/\∀w1:World,w1.heap=w.heap->(Builtin.firstCells size n x').run P w1=.ok ⟨xs'⟩ w1:=by
 cases n with
 |succ k=>exact Gf (n:=k+1) hf hl (bV _) hx hW
 |zero=>
  cases x with
  |slice a m c=>
   have e:xs=[]:=by
    have hf:some ([]:List Value)=some xs:=hf;injection hf with hf;exact hf.symm
   subst e;have hm:m=0:=by
    simp only[oH,aA]at hl;exact hl
   subst hm;have hx':∃a' c',x'=.slice a' 0 c':=by cases hx<;>exact⟨_,_,rfl⟩
   obtain⟨a',c',rfl⟩:=hx';refine⟨[],.nil,rfl,vm,λw1=>rfl,λw1 _=>?_⟩;cases a' with
   |none=>simp[Builtin.firstCells]
   |some a'=>simp[Builtin.firstCells,loadCells,loadCellsFrom]
  |string b=>exact Gf (size:=size) (n:=0) (m:=0) (x:=.string b) hf hl (bV _) hx hW
  |_=>cases hl
variable{ats:Array TypeId}{ty st xt e:TypeId}{i:TypeInfo}{z:Value}
theorem X6{xd:TypeDesc}(h0:ats[0]? =some st)(h1:ats[1]? =some xt)(hu:P.underlying st=some (.slice e))(hxd:P.underlying xt=some xd)(hni:∀k,xd≠.int k)
 (hs:jm P e=some size) (hsp:0<size) (hi:P.info? e=some i) (hz:i.zero=some z) (hzl:z.cells.size=size) (hb:0<i.bytes) {s s' x x':Value} {n:Nat} {xs:List Value}
 (hl:oH x=some n) (hf:xV size n x h=some xs) (hr:wE size i.bytes s n xs h=some (v,h')) (hvs:VR β s s') (Bt:VR β x x') (hW:WR P β h w):
 ∃w' β' v',(Builtin.append_ ats ty #[s',x']).run P w=.ok v' w'/\VR β' v v'/\WR P β' h' w'/\Eff β h w β' h' w':=by
 obtain⟨xs',x1,x2,x3,x4,x5⟩:=X5 hf hl Bt hW;have hxl:xs'.length=n*size:=x1.length.trans x3;obtain⟨base,len,cap,rfl,s1,s2,s3⟩:=X4 hr;unfold small at s1 s2;rcases s3 with⟨hle,hin⟩|⟨hgt,old,hold,rfl,hnew⟩
 · -- within the capacity
   rcases hin with⟨j,o,f,rfl,hst,rfl⟩|⟨rfl,rfl,rfl,rfl⟩
   ·obtain⟨g,a,c',hg,rfl,ha1,ha2,hn,hcc,hoff,hkind⟩:=hvs.nI;have Dy:xs=[]\/(a.off=g.off+o/\a.spot=none):=by
     rcases hoff with hh|hh
     ·left;have:n=0:=by omega
      subst this;rw[<- jw,x3];simp
     ·exact .inr hh
    obtain⟨w',p1,p2,p3⟩:=KG hW hg ha1 Dy hst x1 x2;refine⟨w',β,_,KF h0 h1 hu hxd hni hs x4 (oW hle hcc) (x5 w rfl) (w':=w') (p1 0 rfl),?_,p2,p3⟩;rcases hkind with⟨rfl,rfl⟩|⟨rfl,k1,k2,k3⟩
    ·exact .ak hg ha1 hle hoff
    ·exact .pE hg ha1 k3.2 hle k1 k2 k3.1 hcc (hoff.imp id (·.1))
   ·have hs':s'=.slice none len cap:=by cases hvs;rfl
    subst hs';refine⟨w,β,_,KF h0 h1 hu hxd hni hs x4 hle (x5 w rfl) (w':=w) rfl,.sl0 _ _,hW,Eff.refl _ _ _ hW.dom⟩
 · -- beyond it
   obtain⟨old',o1,o2,o3,_,o5⟩:=Gf hold rfl (bV _) hvs hW;have hol:old'.length=len*size:=o1.length.trans o3
   -- a new row on the model's side
   have hfresh:∀(base':Option Addr) (cap':Nat) (h2:IH),s'=.slice base' len cap'->cap'<len+n->h2.next=h.next->WR P β h2 w->Eff β h w β h2 w->h'=h2.new (.cells (jY old xs))->
    ∃w' β' v',(Builtin.append_ ats ty #[s',x']).run P w=.ok v' w'/\VR β' (.slice (some ⟨h.next,0,some size⟩) (len+n) (len+n)) v'/\WR P β' h' w'/\Eff β h w β' h' w':=by
    rintro base' cap' h2 rfl hcap hnext hW2 hE2 rfl;obtain⟨cc,rest,a1,a2,a3⟩:=X0 (ty:=ty) h0 h1 hu hxd hni hs hi hz hzl x4 hcap hb vj x5 o5;have hcap2:(len+n)+(cc - (len+n))=cc:=vj
    have hmul:(len+n)*size+rest.length=cc*size:=by rw[a2,<- rW,hcap2]
    have hlen:(old++xs).length=(len+n)*size:=by rw[iE,o3,x3,rW]
    have hW3:WR P β h2 w.drew:=hW2.uh rfl;have KH:Eff β h2 w β h2 w.drew:=Eff.uh hW2.dom rfl rfl rfl rfl;have hcells:=OR.F8 (P:=P) (β:=β.add h2.next ⟨w.heap.size,0,(len+n)*size,cc*size,size⟩) (w:=w.drew) (cs:=old++xs) (cs':=old'++xs') e
     ((o1.append x1).mono (aC.wL _ hW2.x9)) (by simp[o2,x2]) rest size
    have hcells:OR P (β.add h2.next ⟨w.heap.size,0,(len+n)*size,cc*size,size⟩) ⟨w.heap.size,0,(len+n)*size,cc*size,size⟩ {w.drew with heap:=w.drew.heap.push (.cells ⟨old'++xs'++rest⟩ e)} (.cells (old++xs)):=by
     rw[hlen,hmul]at hcells;exact hcells
    obtain⟨b1,b2⟩:=hW3.alloc (.cells (old++xs)) (.cells ⟨old'++xs'++rest⟩ e) ⟨w.heap.size,0,(len+n)*size,cc*size,size⟩ rfl rfl hcells;refine⟨_,_,_,a3,?_,by rw[jF];exact b1,by rw[jF];exact(hE2.trans KH).trans b2⟩;have hb:=aC.lV β h2.next ⟨w.heap.size,0,(len+n)*size,cc*size,size⟩
    rw[<- hnext];exact VR.pE (g:=⟨w.heap.size,0,(len+n)*size,cc*size,size⟩) hb rfl rfl (bV _) hsp vm vm a1 (.inr rfl)
   rcases hnew with⟨j,o,rfl,_,rfl⟩|⟨Dz,rfl⟩
   ·obtain⟨g,a,c',hg,rfl,ha1,ha2,hn,hcc,hoff,hkind⟩:=hvs.nI;obtain⟨k0,k1,k2,k3,ha2⟩:g.sz=size/\0<g.sz/\o+cap*g.sz=g.len/\g.off+o+c'*g.sz=g.top/\a.spot=none:=by
     rcases hkind with hk|hk
     ·have:=hk.1;simp at this;omega
     ·have:=hk.1;simp at this;exact⟨this.symm,hk.2.1,hk.2.2.1,hk.2.2.2⟩
    obtain⟨cs0,hcs⟩:∃cs,h.get j=some (.cells cs):=by
     unfold mX at hold;obtain⟨cs,q|q,_⟩:=Bq hold
     ·exact⟨cs,q⟩
     ·have:=(hW.obj j g _ hg q).2.1;omega
    have hlive:h.get j≠none:=by rw[hcs];simp
    by_cases hfit:len+n<=c'
    · -- in place
      have hof:a=⟨g.b,g.off+o,none⟩:=by
       have:a.off=g.off+o:=by rcases hoff with hh|hh<;>omega
       obtain⟨ab,ao,as⟩:=a;simp only at ha1 ha2 this;rw[ha1,ha2,this]
      subst hof;obtain⟨q1,q2,q3,q5,q6,q7⟩:=hW.obj j g _ hg hcs;rw[k0]at k1 k2 k3;have hmul:len*size+n*size=(len+n)*size:=(rW _ _ _).symm;have ai1:(len+n)*size<=c'*size:=akd _ hfit;have hin:∀j,j<xs'.length->g.off+o+len*size+j<g.top:=λj hj=>by omega
      have hone:∀v∈xs',v.oneCell'=true:=λv hv'=>by
       obtain⟨j,hj⟩:=jT hv';have hjl:j<xs.length:=by
        rcases qJ j xs'.length with hh|hh
        ·omega
        ·rw[gJ hh]at hj;cases hj
       obtain⟨v2,hv2,hr⟩:=x1.get (bW hjl);rw[hv2]at hj;cases hj;have hc:=(kR.1 x2) _ (xP hjl);obtain⟨a,b⟩:=hr.cellV hc;cases v<;>first|rfl|exact absurd rfl (a _)|exact absurd rfl (b _)
      have hrun:(storeCells ((⟨g.b,g.off+o,none⟩:Addr).add (len*size)) xs').run P w=.ok () (w.setCells g.b (g.off+o+len*size) xs'):=by
       rw[addr_add];have:=run_storeCells_cells (P:=P) g.b (g.off+o+len*size) xs' 0 w (λj hj=>(q5 _ (hin j hj)).1) (λj hj=>(q5 _ (hin j hj)).2) hone;simpa using this
      obtain⟨hsz,hother,hsame,zD,hos,hout⟩:=XZ (w:=w) g.b (g.off+o+len*size) xs';refine⟨_,β.add h.next ⟨g.b,g.off+o,(len+n)*size,g.top,size⟩,_,KF h0 h1 hu hxd hni hs x4 hfit (x5 w rfl) hrun,?_,?_⟩
      ·refine VR.pE (g:=⟨g.b,g.off+o,(len+n)*size,g.top,size⟩) (aC.lV _ _ _) rfl rfl (bV _) hsp vm wx hfit (.inr rfl)
      ·rw[jF];have hdr:w.drawn<=(w.setCells g.b (g.off+o+len*size) xs').drawn:=by rw[Kk];exact bV _
       refine hW.WY hg hlive (by rw[hcs];intro cs e;cases e) (.cells (old++xs)) ⟨g.b,g.off+o,(len+n)*size,g.top,size⟩ rfl hsz hother hos zD hout hdr ?_;have hle:=aC.wL (β:=β) (i:=h.next) ⟨g.b,g.off+o,(len+n)*size,g.top,size⟩ hW.x9;refine⟨hsame q1,?_,?_,?_,by simp[o2,x2],?_⟩
       ·show(old++xs).length=(len+n)*size;rw[iE,o3,x3,rW]
       ·show g.off+o+(len+n)*size<=g.top;omega
       ·intro j hj;refine⟨?_,by rw[World.frozen?_setCells];exact(q5 j hj).2⟩;by_cases hr:g.off+o+len*size<=j/\j<g.off+o+len*size+xs'.length
        ·have:=OJ g.b xs' (g.off+o+len*size) w (λk hk=>(q5 _ (hin k hk)).1) (j - (g.off+o+len*size)) vj;rw[show g.off+o+len*size+(j - (g.off+o+len*size))=j by omega]at this;rw[this];simp
        ·rw[OL g.b xs' (g.off+o+len*size) w ⟨g.b,j,none⟩ (λ_ _=>by simp;omega)];exact(q5 j hj).1
       ·intro j v hj;show∃v',(w.setCells g.b (g.off+o+len*size) xs').cell? ⟨g.b,g.off+o+j,none⟩=some v'/\VR _ v v';by_cases hjo:j<old.length
        ·rw[qL hjo]at hj;obtain⟨ai2,r1,r2⟩:=Bq (by unfold mX at hold;exact hold);rw[hcs]at r1;rcases r1 with r1|r1<;>cases r1
         rw[show len.mul size=len*size from rfl,sD,qV]at r2;split at r2
         ·simp only[aA]at r2;have hj2:cs0[o+j]? =some v:=by
           rw[<- r2,tO,if_pos vj,qK]at hj;exact hj
          obtain⟨v',t1,t2⟩:=q7 (o+j) v hj2;refine⟨v',?_,t2.mono hle⟩;rw[OL g.b xs' (g.off+o+len*size) w ⟨g.b,g.off+o+j,none⟩ (λ_ _=>by simp;omega)];rw[qb];exact t1
         ·cases r2
        ·rw[qa vj]at hj;obtain⟨v',t1,t2⟩:=x1.get hj;refine⟨v',?_,t2.mono hle⟩;have hlt:j - old.length<xs'.length:=by
          rcases qJ (j - old.length) xs'.length with hh|hh
          ·exact hh
          ·rw[gJ hh]at t1;cases t1
         have:=OJ g.b xs' (g.off+o+len*size) w (λk hk=>(q5 _ (hin k hk)).1) (j - old.length) hlt;rw[show g.off+o+len*size+(j - old.length)=g.off+o+j by omega]at this;rw[this,<- t1,bW hlt]
    ·obtain⟨d1,d2⟩:=hW.drop hg;exact hfresh _ c' (h.kill j) rfl vj rfl d1 d2 rfl
   ·have hs':∃base',s'=.slice base' len cap:=by
     cases hvs with
     |sl0=>exact⟨_,rfl⟩
     |ak=>exact⟨_,rfl⟩
     | @pE i' o' n' c1 c1' g' a' _ _ _ _ hz' _ _ _ _=>
       exfalso
       obtain⟨k,hk⟩:∃k,g'.sz=k+1:=⟨g'.sz - 1,vj⟩
       rw[hk]at Dz;exact Dz _ _ k rfl
    obtain⟨base',rfl⟩:=hs';exact hfresh base' cap h rfl vj rfl hW (Eff.refl _ _ _ hW.dom) rfl
variable{k:IntKind}
theorem X7(h0:ats[0]? =some st)(h1:ats[1]? =some xt)(hu:P.underlying st=some (.slice e))(hx:P.underlying xt=some (.int k))
 (hs:jm P e=some size) (hsp:0<size) (hi:P.info? e=some i) (hz:i.zero=some z) (hzl:z.cells.size=size) {m:Nat} (hm:0<m) (hb:0<i.bytes) (hfit:m*i.bytes<=1073741824):
 ∃c rest,m<=c/\rest.length=(c - m)*size/\
  (Builtin.append_ ats ty #[.slice none 0 0,.int .i64 (m:Int)]).run P w=.ok (.slice (some ⟨w.heap.size,0,none⟩) m c) {w.drew with heap:=w.heap.push (.cells ⟨(Builtin.zeroCells z.cells m).toList++rest⟩ e)}:=by
 have hnb:m<=m*i.bytes:=Nat.le_mul_of_pos_right _ hb;have h48':¬(281474976710656<Builtin.nextslicecap m 0*i.bytes):=by
  have:=growslice_fits (need:=m) (old:=0) (bytes:=i.bytes) vj vj;omega
 have hw:IntKind.i64.wrap (m:Int)=(m:Int):=IntWalk.i64_in (m:Int) ⟨vj,vj⟩;have hbi:¬((281474976710656:Int)<(m:Int)*(i.bytes:Int)):=by
  have h2:((m*i.bytes:Nat):Int)<=1073741824:=vj
  rw[Int.natCast_mul]at h2;omega
 have hneg:¬((m:Int)<0):=vj
 have hms:¬(m*size=0):=by
  have:=Nat.mul_pos hm hsp;omega
 have hm0:¬(m=0):=vj
 have hs0:¬(size=0):=vj
 have h63':¬((9223372036854775807:Int)<(m:Int)):=vj
 refine⟨grownCap w m 0 e,(Builtin.zeroCells z.cells (grownCap w m 0 e - m)).toList,?_,?_,?_⟩
 ·unfold grownCap Question.cut;exact Nat.le_add_right _ _
 ·simp[Builtin.zeroCells,hzl]
 ·have hsz:i.size=size:=by simpa[jm,hi]using hs
  simp[Builtin.append_,h0,h1,fE hu,fE hx,sizeOf,typeInfo,zeroValue,hi,hz,hw,hbi,hneg,hms,hm0,hs0,h63',h48',Question.forced,hsz,newRow,grownCap,asInt,asIntOf,Builtin.firstCells];have:∀Y Z:Array Value,Y++Z=⟨Y.toList++Z.toList⟩:=λY Z=>by apply Array.ext';simp
  rw[this];rfl
theorem X8{zv:Value}{z:List Value}(h0:ats[0]? =some st)(h1:ats[1]? =some xt)(hu:P.underlying st=some (.slice e))(hxd:P.underlying xt=some (.int k))
 (hs:jm P e=some size) (hsp:0<size) (hi:P.info? e=some i) (hz:i.zero=some zv) (hzc:zv.cells=⟨z⟩) (hfr:fO z=true) (hzl:z.length=size) (hb:0<i.bytes) {m:Nat} (hm:0<m) (hfit:m*i.bytes<=1073741824) (hW:WR P β h w):
 ∃w' β' v',(Builtin.append_ ats ty #[.slice none 0 0,.int .i64 (m:Int)]).run P w=.ok v' w'/\VR β' (.slice (some ⟨h.next,0,some size⟩) m m) v'/\WR P β' (h.new (.cells (zeros z m))) w'/\Eff β h w β' (h.new (.cells (zeros z m))) w':=by
 have hzs:zv.cells.size=size:=by rw[hzc];exact hzl
 have Dm:z≠[]:=λe=>by rw[e]at hzl;simp at hzl;omega
 obtain⟨cc,rest,a1,a2,a3⟩:=X7 (w:=w) (ty:=ty) h0 h1 hu hxd hs hsp hi hz hzs hm hb hfit;have hrow:(Builtin.zeroCells zv.cells m).toList=zeros z m:=by
  unfold Builtin.zeroCells;rw[hzc];have:=Gb z m Dm;rw[show(⟨z⟩:Array Value).size=z.length from rfl]at *;rw[this]
 rw[hrow]at a3;have hcap2:m+(cc - m)=cc:=vj
 have hlen:(zeros z m).length=m*size:=by rw[zeros_length,hzl]
 have hmul:m*size+rest.length=cc*size:=by rw[a2,<- rW,hcap2]
 have hW3:WR P β h w.drew:=hW.uh rfl;have KH:Eff β h w β h w.drew:=Eff.uh hW.dom rfl rfl rfl rfl;have hcells:=OR.F8 (P:=P) (β:=β.add h.next ⟨w.heap.size,0,m*size,cc*size,size⟩) (w:=w.drew) (cs:=zeros z m) (cs':=zeros z m) e
  (aZ.free (yf hfr m)) (ug (yf hfr m)) rest size
 have hcells:OR P (β.add h.next ⟨w.heap.size,0,m*size,cc*size,size⟩) ⟨w.heap.size,0,m*size,cc*size,size⟩ {w.drew with heap:=w.drew.heap.push (.cells ⟨zeros z m++rest⟩ e)} (.cells (zeros z m)):=by
  rw[hlen,hmul]at hcells;exact hcells
 obtain⟨b1,b2⟩:=hW3.alloc (.cells (zeros z m)) (.cells ⟨zeros z m++rest⟩ e) ⟨w.heap.size,0,m*size,cc*size,size⟩ rfl rfl hcells;refine⟨_,_,_,a3,?_,b1,KH.trans b2⟩;have hb:=aC.lV β h.next ⟨w.heap.size,0,m*size,cc*size,size⟩
 exact VR.pE (g:=⟨w.heap.size,0,m*size,cc*size,size⟩) hb rfl rfl (bV _) hsp vm vm a1 (.inr rfl)
variable{args:Array Operand}{x:Operand}
theorem X9{s:Operand}(ha:args.toList=[s,x])(hc:cop P ⟨dst,.call {callee:=.builtin .append,args,argTypes:=ats},type,pos,after,guard⟩=some c)
 (hr:c.run P ρ h=some (v,h')) (hs:VR β (ρ s) (ρ' s)) (hx:VR β (ρ x) (ρ' x)) (hW:WR P β h w):
 Good P β h w (execOp ρ' ⟨dst,.call {callee:=.builtin .append,args,argTypes:=ats},type,pos,after,guard⟩) v h':=by
 obtain rfl:args= #[s,x]:=As
 rw[yj];have hm:(#[s,x].map ρ')= #[ρ' s,ρ' x]:=vm
 rw[hm];simp only[cop]at hc;split at hc
 ·rename_i st xt h0 h1;split at hc
  ·rename_i e xd hu hxd;split at hc
   ·rename_i size b z hsz hb hz;by_cases hint:∃k,xd=.int k
    ·obtain⟨k,rfl⟩:=hint;have hc':c=.FU e size (b+1) z s x:=by
      exact sY
     subst hc';obtain⟨zv,i,i1,i2,i3,i4,i5⟩:=yc hz;obtain⟨hs1,hs2⟩:=sG hsz;have hzl:z.length=size:=by
      rw[hs1]at i5;simp only[aA]at i5;exact i5.symm
     have hib:i.bytes=b+1:=by rw[i1]at hb;simpa using hb
     simp only[aB.run]at hr;split at hr
     ·rename_i n hns hnx;rw[hns]at hs;rw[hnx]at hx;have hs':ρ' s=.slice none 0 0:=by
       generalize ρ' s=q at hs;cases hs;rfl
      have hx':ρ' x=.int .i64 ((n+1:Nat):Int):=by
       generalize ρ' x=q at hx;cases hx;rfl
      rw[hs',hx'];cases hcond:(Nat.ble (Nat.mul (n+1) (b+1)) small&&Nat.ble (Nat.mul (n+1) size) small&&Nat.ble (n+1) small)with
      |false=>rw[hcond]at hr;cases hr
      |true=>
       rw[hcond]at hr;simp only[cond_true,aA,cO]at hr;obtain⟨rfl,rfl⟩:=hr;simp only[eB]at hcond;have hfit:=mD hcond.1.1;obtain⟨w',β',v',r1,r2,r3,r4⟩:=X8 (ty:=type) h0 h1 hu hxd hs1 hs2 i1 i2 i3 i4 hzl vj (m:=n+1) vj (by rw[hib];exact hfit) hW;exact⟨.value v',w',β',v',wM r1,.inl rfl,r2,r3,r4⟩
     ·cases hr
    have hni:∀k,xd≠.int k:=λk e=>hint ⟨k,e⟩;have hc':c=.append e size (b+1) s x:=by
     split at hc
     ·exact absurd rfl (hni _)
     ·exact sY
    subst hc';obtain⟨zv,i,i1,i2,i3,i4,i5⟩:=yc hz;obtain⟨hs1,hs2⟩:=sG hsz;have hzl:zv.cells.size=size:=by
     rw[hs1]at i5;simp only[aA]at i5;rw[i3,i5];rfl
    have hib:i.bytes=b+1:=by rw[i1]at hb;simpa using hb
    simp only[aB.run]at hr;split at hr
    ·rename_i n hn;split at hr
     ·rename_i xs hxs;rw[<- hib]at hr;obtain⟨w',β',v',r1,r2,r3,r4⟩:=X6 (ty:=type) h0 h1 hu hxd hni hs1 hs2 i1 i2 hzl vj hn hxs hr hs hx hW;exact⟨.value v',w',β',v',wM r1,.inl rfl,r2,r3,r4⟩
     ·cases hr
    ·cases hr
   ·cases hc
  ·cases hc
 ·cases hc
theorem Ya{d:Operand}(ha:args.toList=[d,x])(hc:cop P ⟨dst,.call {callee:=.builtin .copy,args,argTypes:=ats},type,pos,after,guard⟩=some c)
 (hr:c.run P ρ h=some (v,h')) (hd:VR β (ρ d) (ρ' d)) (hx:VR β (ρ x) (ρ' x)) (hW:WR P β h w):
 Good P β h w (execOp ρ' ⟨dst,.call {callee:=.builtin .copy,args,argTypes:=ats},type,pos,after,guard⟩) v h':=by
 obtain rfl:args= #[d,x]:=As
 rw[yj];have hm:(#[d,x].map ρ')= #[ρ' d,ρ' x]:=vm
 rw[hm];simp only[cop]at hc;split at hc
 ·rename_i dt h0;split at hc
  ·rename_i e hu;cases hsz:mY P e with
   |none=>simp[hsz]at hc
   |some size=>
    simp only[hsz,jU,aA]at hc;subst hc;obtain⟨hs1,hs2⟩:=sG hsz;simp only[aB.run]at hr;unfold Pb at hr;split at hr
    ·rename_i base nV Yb m hdv hl;simp only at hr;split at hr
     ·cases hr
     ·rename_i cs hcs;have hn:(cond (Nat.ble m nV) m nV)=Nat.min m nV:=by
       cases hb:Nat.ble m nV with
       |true=>have:=mD hb;show m=min m nV;omega
       |false=>
        have:¬m<=nV:=λhh=>by rw[Fv hh]at hb;cases hb
        show nV=min m nV;omega
      rw[hn]at hr hcs;obtain⟨cs',x1,x2,x3,x4,x5⟩:=Gf hcs hl (Nat.min_le_left _ _) hx hW;rw[hdv]at hd;have hmn:m.min nV=min m nV:=rfl;split at hr
      ·rename_i i o f;split at hr
       ·rename_i h2 hst;simp only[aA,cO]at hr;obtain⟨rfl,rfl⟩:=hr;obtain⟨g,a,c',hg,hd',ha1,ha2,hnc,hcc,hoff,_⟩:=hd.nI;have Dy:cs=[]\/(a.off=g.off+o/\a.spot=none):=by
         rcases hoff with hh|hh
         ·left;have h00:m.min nV=0:=by rw[hmn];omega
          rw[h00]at x3;rw[<- jw,x3];simp
         ·exact .inr hh
        obtain⟨w',p1,p2,p3⟩:=KG (d:=0) hW hg ha1 Dy hst x1 x2;have p1:=p1 0 rfl;have hadd:a.add 0=a:=by
         simp[Addr.add]
        rw[hadd]at p1;refine⟨.value (goInt (m.min nV)),w',β,_,?_,.inl rfl,.int _ _,p2,p3⟩;simp only[builtin];refine wM ?_;simp only[Builtin.copy_,h0,JM,zi,qI,hd',dz,fE hu,dD,x4,mE hs1,x5 w rfl,p1,eX]
       ·cases hr
      ·split at hr
       ·rename_i hn0;simp only[aA,cO]at hr;obtain⟨rfl,rfl⟩:=hr;have hd':ρ' d=.slice none nV Yb:=by generalize ρ' d=y at hd;cases hd;rfl
        refine Good.same hW (v':=goInt (m.min nV)) ?_ (by rw[hn0];exact .int _ _);simp only[builtin];refine wM ?_;simp only[Builtin.copy_,h0,JM,zi,qI,hd',dz,fE hu,dD,x4,mE hs1,x5 w rfl,eX]
       ·cases hr
    ·cases hr
  ·cases hc
 ·cases hc
theorem Yc(ha:args.toList=[x])(hc:cop P ⟨dst,.call {callee:=.builtin .clear,args,argTypes:=ats},type,pos,after,guard⟩=some c)
 (hr:c.run P ρ h=some (v,h')) (hx:VR β (ρ x) (ρ' x)) (hW:WR P β h w):
 Good P β h w (execOp ρ' ⟨dst,.call {callee:=.builtin .clear,args,argTypes:=ats},type,pos,after,guard⟩) v h':=by
 obtain rfl:args= #[x]:=As
 rw[yj];have hm:(#[x].map ρ')= #[ρ' x]:=vm
 rw[hm];simp only[cop]at hc;split at hc
 ·rename_i t h0;split at hc
  ·rename_i e hu;split at hc
   ·rename_i z zs hz;simp only[aA]at hc;subst hc;obtain⟨zv,i,hi,hzv,hzc,hfr,_⟩:=yc hz;simp only[aB.run]at hr;split at hr
    ·rename_i j o f n c hxv;split at hr
     ·rename_i h2 hst;simp only[aA,cO]at hr;obtain⟨rfl,rfl⟩:=hr;rw[hxv]at hx;obtain⟨g,a,c',hg,hx',ha1,ha2,hnc,hcc,hoff,_⟩:=hx.nI;have Dy:zeros (z::zs) (n+1)=[]\/(a.off=g.off+o/\a.spot=none):=by
       rcases hoff with hh|hh
       ·omega
       ·exact .inr hh
      obtain⟨w',p1,p2,p3⟩:=KG (d:=0) hW hg ha1 Dy hst (aZ.free (yf hfr (n+1))) (ug (yf hfr (n+1)));have p1:=p1 0 rfl;have hadd:a.add 0=a:=by
       simp[Addr.add]
      rw[hadd]at p1;have hrow:(Builtin.zeroCells zv.cells (n+1)).toList=zeros (z::zs) (n+1):=by
       unfold Builtin.zeroCells;rw[hzc];have:=Gb (z::zs) (n+1) vm;rw[show(⟨z::zs⟩:Array Value).size=(z::zs).length from rfl]at *;rw[this]
      refine⟨.value (.tuple #[]),w',β,_,?_,.inl rfl,.dO _,p2,p3⟩;simp only[builtin];refine wM ?_;simp only[Builtin.clear_,h0,JM,zi,hx',dz,fE hu,dD,zeroValue,typeInfo,hi,hzv,run_program,eX,hrow,p1]
     ·cases hr
    ·rename_i base c hxv;simp only[aA,cO]at hr;obtain⟨rfl,rfl⟩:=hr;rw[hxv]at hx;have hx':∃base' c',ρ' x=.slice base' 0 c':=by
      generalize ρ' x=y at hx;cases hx<;>exact⟨_,_,rfl⟩
     obtain⟨base',c',hx'⟩:=hx';refine Good.same hW (v':=.tuple #[]) ?_ (.dO _);simp only[builtin];refine wM ?_;cases base'<;>simp only[Builtin.clear_,h0,JM,zi,hx',dz,fE hu,dD,eX]
    ·cases hr
   ·cases hc
  ·cases hc
 ·cases hc
end
end Go.Ideal
namespace Go.Ideal
variable {P:Program} {β:aC} {h:IH} {w:World}
variable{v:Value}{h':IH}
theorem PV{x:Option ((Nat->Value)×dQ)}(hr:qQ x h=some (v,h')):∃f ob,x=some (f,ob)/\v=f h.next/\h'=h.new ob:=by
 unfold qQ at hr;split at hr
 ·rename_i f o;simp only[aA,cO]at hr;exact⟨f,o,rfl,hr.1.symm,hr.2.symm⟩
 ·cases hr
def aB.makes:aB->Bool
 | .new .. | .box .. | .wB .. | .uY| .zn .. =>true
 |_=>false
variable{c:aB}
theorem aB.PW(hm:c.makes=true)(ρ:Operand->Value)(h:IH):c.run P ρ h=qQ (c.alloc ρ) h:=by
 cases c<;>first|rfl|cases hm
variable{o:Oper}{ρ ρ':Operand->Value}
theorem PX{f:Nat->Value}{ob:dQ}(hm:c.makes=true)(hc:cop P o=some c)(hρ:∀x∈o.op.operands,VR β (ρ x) (ρ' x))(ha:c.alloc ρ=some (f,ob)):uj P β w (execOp ρ' o) f ob:=by
 obtain⟨dst,op,type,pos,after,guard⟩:=o;cases op
 case alloc e=>exact Xb hc ha
 case box e x=>exact Xc hc ha (hρ x wk)
 case buildSlice t n ps=>exact Xh hc ha λp hp=>hρ p.2 A0
 case makeMap t r=>exact Xd hc ha
 case makeSlice t l k=>exact Xf hc ha (hρ l wk) (hρ k wk)
 case next it s=>
  cases s with
  |true=>simp[cop]at hc
  |false=>simp only[cop,aA]at hc;subst hc;cases hm
 all_goals
  exfalso
  revert hm;simp only[cop]at hc;repeat' split at hc
  all_goals first
   |contradiction
   |(cases hc;done)
   |(simp only[aA,jV,reduceCtorEq,false_and,and_false,exists_false]at hc;done)
   |(simp only[aA]at hc;subst hc;intro hm;cases hm)
   |(simp only[jV]at hc;obtain⟨_,_,rfl⟩:=hc;intro hm;cases hm)
theorem PY(hc:cop P o=some c)(hρ:∀x∈o.op.operands,VR β (ρ x) (ρ' x))(hr:c.run P ρ h=some (v,h'))(hW:WR P β h w):
 Good P β h w (execOp ρ' o) v h':=by
 by_cases hm:c.makes=true
 ·rw[aB.PW hm]at hr;obtain⟨f,ob,ha,rfl,rfl⟩:=PV hr;exact(PX hm hc hρ ha).good hW
 obtain⟨dst,op,type,pos,after,guard⟩:=o;cases op
 case move x=>exact Xi hc hr (hρ x wk) hW
 case assign x=>exact Xj hc hr (hρ x wk) hW
 case pick x y z=>exact Xk hc hr (hρ x wk) (hρ y wk) (hρ z wk) hW
 case build t ps=>exact Xm hc hr (λp hp=>hρ p.2 A0) hW
 case load t a=>exact Xn hc hr (hρ a wk) hW
 case store t a x=>exact Xo hc hr (hρ a wk) (hρ x wk) hW
 case nilCheck x=>exact Xp hc hr (hρ x wk) hW
 case binOp op t x y yt=>exact Xt hc hr (hρ x wk) (hρ y wk) hW
 case unOp op t x=>exact Xu hc hr (hρ x wk) hW
 case convert s d x=>exact XU hc hr (hρ x wk) hW
 case makeInterface t x=>exact Xv hc hr (hρ x wk) hW
 case makeFunc fn first captured=>exact Xw hc hr (λx hx=>hρ x DE) (λx hx=>hρ x DG) hW
 case slice t x lo hi mx=>exact XC hc hr (hρ x wk) (λy hy=>hρ y yW) (λy hy=>hρ y yW) (λy hy=>hρ y yW) hW
 case fieldAddr s x f=>exact Xy hc hr (hρ x wk) hW
 case field t x f=>exact Xz hc hr (hρ x wk) hW
 case indexAddr t x y=>exact XA hc hr (hρ x wk) (hρ y wk) hW
 case index t x y=>exact XW hc hr (hρ x wk) (hρ y wk) hW
 case lookup t m k ok=>exact XI hc hr (hρ m wk) (hρ k wk) hW
 case mapUpdate t m k x=>exact XK hc hr (hρ m wk) (hρ k wk) (hρ x wk) hW
 case insert t m k x=>exact XL hc hr (hρ m wk) (hρ k wk) (hρ x wk) hW
 case range t x=>exact XM hc hr (hρ x wk) hW
 case entry x=>exact XN hc hr (hρ x wk) hW
 case typeAssert x xt t ok=>exact XO hc hr (hρ x wk) hW
 case extract x i=>exact XB hc hr (hρ x wk) hW
 case next it s=>
  cases s with
  |true=>simp[cop]at hc
  |false=>simp only[cop,aA]at hc;subst hc;cases hr
 case panic x=>simp only[cop,aA]at hc;subst hc;cases hr
 case defer cl=>
  obtain⟨callee,args,ats⟩:=cl;cases callee with
  |value f=>simp only[cop,aA]at hc;subst hc;cases hr
  |invoke x n=>simp[cop]at hc
  |builtin b=>simp[cop]at hc
 case call cl=>
  obtain⟨callee,args,ats⟩:=cl;cases callee with
  |value f=>simp only[cop,aA]at hc;subst hc;cases hr
  |invoke x n=>simp only[cop,aA]at hc;subst hc;cases hr
  |builtin b=>
   have hargs:∀x∈args.toList,VR β (ρ x) (ρ' x):=λx hx=>hρ x Ds;cases b
   case append=>
    cases ha:args.toList with
    |nil=>simp[cop,ha]at hc
    |cons s r=>cases r with
     |nil=>simp[cop,ha]at hc
     |cons x r=>cases r with
      |nil=>exact X9 ha hc hr (hargs s ye) (hargs x ye) hW
      |cons y r=>simp[cop,ha]at hc
   case copy=>
    cases ha:args.toList with
    |nil=>simp[cop,ha]at hc
    |cons s r=>cases r with
     |nil=>simp[cop,ha]at hc
     |cons x r=>cases r with
      |nil=>exact Ya ha hc hr (hargs s ye) (hargs x ye) hW
      |cons y r=>simp[cop,ha]at hc
   case clear=>
    cases ha:args.toList with
    |nil=>simp[cop,ha]at hc
    |cons s r=>cases r with
     |nil=>exact Yc ha hc hr (hargs s ye) hW
     |cons y r=>simp[cop,ha]at hc
   case len=>
    cases ha:args.toList with
    |nil=>simp[cop,ha]at hc
    |cons s r=>cases r with
     |nil=>exact XX ha hc hr (hargs s ye) hW
     |cons y r=>simp[cop,ha]at hc
   case cap=>
    cases ha:args.toList with
    |nil=>simp[cop,ha]at hc
    |cons s r=>cases r with
     |nil=>exact XY ha hc hr (hargs s ye) hW
     |cons y r=>simp[cop,ha]at hc
   case min=>exact PU (.inl rfl) hc hr hargs hW
   case max=>exact PU (.inr rfl) hc hr hargs hW
   case recover=>simp only[cop,aA]at hc;subst hc;cases hr
   case panic=>
    cases ha:args.toList with
    |nil=>simp[cop,ha]at hc
    |cons s r=>cases r with
     |nil=>simp only[cop,ha,aA]at hc;subst hc;cases hr
     |cons y r=>simp[cop,ha]at hc
   all_goals (simp[cop]at hc)
 all_goals
  exfalso
  first
   |(simp[cop]at hc;done)
   |(apply hm
     simp only[cop]at hc;repeat' split at hc
     all_goals first
      |contradiction
      |(cases hc;done)
      |(simp only[aA]at hc;subst hc;rfl)
      |(simp only[jV]at hc;obtain⟨_,_,rfl⟩:=hc;rfl))
end Go.Ideal
namespace Go.Ideal
variable {P:Program} {β:aC} {h:IH} {w:World}
inductive nW(β:aC):List PanicEntry->List PanicEntry->Prop
 |nil:nW β [] []
 |cons {e e':PanicEntry} {l l':List PanicEntry} (hv:VR β e.v e'.v) (hr:e'.recovered=e.recovered) (hg:e'.goexit=e.goexit) (hl:nW β l l'):nW β (e::l) (e'::l')
variable{β':aC}
theorem nW.mono{β:aC}(h:β.le β'){l l':List PanicEntry}(k:nW β l l'):nW β' l l':=by
 induction k with
 |nil=>exact .nil
 |cons hv hr hg _ ih=>exact .cons (hv.mono h) hr hg ih
theorem nW.append{l l' r r':List PanicEntry}(k:nW β l l')(k2:nW β r r'):nW β (l++r) (l'++r'):=by
 induction k with
 |nil=>exact k2
 |cons hv hr hg _ ih=>exact .cons hv hr hg ih
inductive MR(β:aC):FrameMode->FrameMode->Prop
 |run:MR β .run .run
 |returning:MR β .returning .returning
 |panicking {l l':List PanicEntry} (h:nW β l l'):MR β (.panicking l) (.panicking l')
theorem MR.mono{β:aC}(h:β.le β'){m m':FrameMode}(k:MR β m m'):MR β' m m':=by
 cases k with
 |run=>exact .run
 |returning=>exact .returning
 |panicking k=>exact .panicking (k.mono h)
inductive sH(β:aC):List Deferred->List Deferred->Prop
 |nil:sH β [] []
 |fn {fn fn':Fn} {c c' a a':List Value} {l l':List Deferred} (hf:FR β fn fn') (hc:aZ β c c') (ha:aZ β a a') (hl:sH β l l'):sH β ({target:=.fn fn ⟨c⟩,args:=⟨a⟩}::l) ({target:=.fn fn' ⟨c'⟩,args:=⟨a'⟩}::l')
 |coll {r:Nat} {g:iD} {a a':Array Value} {l l':List Deferred} (hr:β r=some g) (hl:sH β l l'):sH β ({target:=.collected r,args:=a}::l) ({target:=.collected g.b,args:=a'}::l')
theorem sH.mono{β:aC}(h:β.le β'){l l':List Deferred}(k:sH β l l'):sH β' l l':=by
 induction k with
 |nil=>exact .nil
 |fn hf hc ha _ ih=>exact .fn (hf.mono h) (hc.mono h) (ha.mono h) ih
 |coll hr _ ih=>exact .coll (h _ _ hr) ih
structure AR(β:aC)(X:Nat->Prop)(a:aV)(tm:Array Value)(df:List Deferred):Prop where
 size:tm.size=a.n
 tmps:∀i,¬X i->VR β (dF a.tmps i) (tm.getD i undef)
 out:∀i,a.n<=i->dF a.tmps i=dO
 defers:sH β a.defers df
def none':Nat->Prop:=λ_=>False
theorem AR.mono{β:aC}(h:β.le β'){X:Nat->Prop}{a:aV}{tm:Array Value}{df:List Deferred}(k:AR β X a tm df):AR β' X a tm df:=
 ⟨k.size,λi hi=>(k.tmps i hi).mono h,k.out,k.defers.mono h⟩
def Yd(P:Program)(g:Nat):Nat:=((P.globals[g]?).map λx=>P.cellsOf x.type).getD 0
def kz(P:Program)(β:aC):Prop:=∀g,g<P.globals.size->∃i,β g=some i/\i.b=g/\i.off=0/\i.top=Yd P g
variable{X:Nat->Prop}{a:aV}{tm:Array Value}{df:List Deferred}
theorem AR.eval{fV:List Deferred}(k:AR β X a tm df)(hG:kz P β){x:Operand}(hok:zw P x=true)(hx:∀t,x=.tmp t->¬X t):VR β (a.eval x) (Act.eval ⟨tm,fV⟩ x):=by
 cases x with
 |tmp t=>exact k.tmps t (hx t rfl)
 |const v=>
  show VR β v v;unfold zw at hok;split at hok
  ·rename_i he;simp only[Operand.const.injEq]at he;subst he;exact .dO _
  ·rename_i he;simp only[Operand.const.injEq]at he;subst he;exact VR.free hok
  ·rename_i he;cases he
  ·rename_i h1 h2 h3;exact absurd rfl (h2 v)
 |global g=>
  have hlt:g<P.globals.size:=by
   have:Nat.blt g P.globals.size=true:=hok;simpa[rV]using this
  obtain⟨i,hi,h1,h2,_⟩:=hG g hlt;have:=VR.ptr (β:=β) (o:=0) hi;rw[h1,h2]at this;exact this
 |func f=>exact .func (.func f) .nil .nil
theorem Gg(tm:Array Value)(d:Nat)(v:Value)(j:Nat)(hd:d<tm.size):(tm.setIfInBounds d v).getD j undef=if j=d then v else tm.getD j undef:=by
 simp only[rX,WE];by_cases h:d=j
 ·subst h;simp[hd]
 ·simp[h,Ne.symm h]
theorem AR.put(k:AR β X a tm df)(d:Option Tmp){v v':Value}(hv:VR β v v'):
 AR β (λi=>X i/\d≠some i) (a.put d v) (match d with|some d=>tm.setIfInBounds d v'|none=>tm) df:=by
 cases d with
 |none=>exact⟨k.size,λi hi=>k.tmps i λhx=>hi ⟨hx,vm⟩,k.out,k.defers⟩
 |some d=>
  show AR β _ (a.set d v) _ df;unfold aV.set;cases hb:Nat.blt d a.n with
  |false=>
   have hge:a.n<=d:=by
    rcases qJ d a.n with hh|hh
    ·have:Nat.blt d a.n=true:=by simpa[rV]using hh
     rw[this]at hb;cases hb
    ·exact hh
   have hs:=k.size;have he:tm.setIfInBounds d v'=tm:=by
    apply Array.ext_getElem?;intro j;rw[WE];split
    ·rename_i e;subst e;rw[if_neg vj,tL vj]
    ·rfl
   simp only[cond_false];rw[he];refine⟨hs,λi hi=>?_,k.out,k.defers⟩;by_cases hx:X i
   ·have hid:i=d:=by
     rcases Nat.decEq d i with hne|he
     ·exact absurd ⟨hx,by simpa using hne⟩ hi
     ·exact he.symm
    subst hid;rw[k.out i hge];exact .dO _
   ·exact k.tmps i hx
  |true=>
   have hlt: @LT.lt Nat _ d a.n:=yb
   have hs:=k.size;simp only[cond_true];refine⟨by simpa using hs,λi hi=>?_,λi hi=>?_,k.defers⟩
   rotate_left
   ·show dF (a.tmps.set d (some v)) i=dO;rw[Bj,if_neg (by have:a.n<=i:=hi;omega)];exact k.out i hi
   show VR β (dF (a.tmps.set d (some v)) i) _;rw[Bj,Gg tm d v' i vj];by_cases hid:i=d
   ·rw[if_pos hid,if_pos hid];exact hv
   ·rw[if_neg hid,if_neg hid];exact k.tmps i λhx=>hi ⟨hx,by simp[Ne.symm hid]⟩
end Go.Ideal
namespace Go.Ideal
variable {P:Program} {β:aC} {h:IH} {w:World}
def fr(b:Frame)(tm:Array Value)(df:List Deferred)(todo:List Item):Frame:={b with tmps:=tm,todo:=todo,defers:=df,mode:=.run}
section
variable {b:Frame} {tm:Array Value} {df:List Deferred} {k:List Item} {cs:List Frame}
theorem PZ(todo:List Item):(fr b tm df todo).eval=Act.eval ⟨tm,df⟩:=funext λx=>by cases x<;>rfl
theorem Ye:step P (lone (fr b tm df (.code .skip::k)) cs w)=.next (lone (fr b tm df k) cs w):=step_lone_go xa
theorem Yf{l:Nat}:step P (lone (fr b tm df (.code (.label l)::k)) cs w)=.next (lone (fr b tm df k) cs w):=step_lone_go xa
variable{id:Nat}
theorem Yg:step P (lone (fr b tm df (.inBlock id::k)) cs w)=.next (lone (fr b tm df k) cs w):=step_lone_go xa
variable{c:Code}
theorem Yh:step P (lone (fr b tm df (.inScope c::k)) cs w)=.next (lone (fr b tm df k) cs w):=step_lone_go xa
variable{x y:Code}
theorem Gh:step P (lone (fr b tm df (.code (.seq x y)::k)) cs w)=.next (lone (fr b tm df (.code x::.code y::k)) cs w):=step_lone_go xa
theorem DC:step P (lone (fr b tm df (.code (.block id c)::k)) cs w)=.next (lone (fr b tm df (.code c::.inBlock id::k)) cs w):=step_lone_go xa
theorem Yi:step P (lone (fr b tm df (.code (.loop c)::k)) cs w)=.next (lone (fr b tm df (.code c::.inLoop c::k)) cs w):=step_lone_go xa
theorem Yj:step P (lone (fr b tm df (.inLoop c::k)) cs w)=.next (lone (fr b tm df (.code c::.inLoop c::k)) cs w):=step_lone_go xa
theorem Gi:step P (lone (fr b tm df (.code (.scope c)::k)) cs w)=.next (lone (fr b tm df (.code c::.inScope c::k)) cs w):=step_lone_go xa
theorem Yk{c:Operand}{t:Bool}(h:Act.eval ⟨tm,df⟩ c=.bool t):
 step P (lone (fr b tm df (.code (.cond c x y)::k)) cs w)=.next (lone (fr b tm df (.code (if t then x else y)::k)) cs w):=
 step_lone_go (by
  have he:=congrFun (PZ (b:=b) (tm:=tm) (df:=df) (.code (.cond c x y)::k)) c;rw[h]at he;simp only[fr]at he;simp[stepG,stepG.exec,fr,he])
theorem Yl{k':List Item}(h:exitTo id k=some k'):step P (lone (fr b tm df (.code (.exit id)::k)) cs w)=.next (lone (fr b tm df k') cs w):=
 step_lone_go (by simp[stepG,stepG.exec,fr,h])
theorem Ym(hr:b.roundOf=none):step P (lone (fr b tm df (.code .ret::k)) cs w)=.next (lone {fr b tm df (.code .ret::k)with mode:=.returning} cs w):=
 step_lone_go (by simp[stepG,stepG.exec,fr,hr])
theorem Yn(hr:b.roundOf=none):step P (lone (fr b tm df []) cs w)=.next (lone {fr b tm df []with mode:=.returning} cs w):=
 step_lone_go (by simp[stepG,stepG.exec,fr,hr])
variable{ops:Array Oper}
theorem Yo:step P (lone (fr b tm df (.code (.region id ops false)::k)) cs w)=.next (lone (fr b tm df (.inRegion ops (List.range ops.size)::k)) cs w):=
 step_lone_go xa
theorem Yp:step P (lone (fr b tm df (.code (.region id ops true)::k)) cs w)=
 .next (lone (fr b tm df (.inRegion ops (Region.schedule (P.follows .mixedOrders) ops (w.tape w.drawn (.order b.fn id)))::k)) cs {w with drawn:=w.drawn+1}):=
 step_lone_go (by simp[stepG,stepG.exec,fr,choose,Sem.run,Question.forced,Question.cut])
theorem Yq:step P (lone (fr b tm df (.inRegion ops []::k)) cs w)=.next (lone (fr b tm df k) cs w):=
 step_lone_go xa
def oI(tm:Array Value)(d:Option Tmp)(v:Value):Array Value:=match d with|some d=>tm.setIfInBounds d v|none=>tm
variable{i:Nat}{rest:List Nat}
theorem DD{v:Value}:(fr b tm df (.inRegion ops (i::rest)::k)).finish v=fr b (oI tm ((ops[i]?).bind (·.dst)) v) df (.inRegion ops rest::k):=by
 cases hd:(ops[i]?).bind (·.dst)<;>simp[Frame.finish,fr,oI,hd]
theorem P5(hn:((ops[i]?).map (Region.wanted · (yielded ops tm))).getD false=false):
 step P (lone (fr b tm df (.inRegion ops (i::rest)::k)) cs w)=.next (lone (fr b (oI tm ((ops[i]?).bind (·.dst)) undef) df (.inRegion ops rest::k)) cs w):=by
 rw[<- DD];exact step_lone_go (by
  have h':=hn;simp only[fr]at *;simp[stepG,stepG.exec,h'])
variable{o:Oper}
theorem zK(ho:ops[i]? =some o)(hw:Region.wanted o (yielded ops tm)=true)(hd:b.roundOf=none\/∀c,o.op≠.defer c):
 stepG P true {frame:=fr b tm df (.inRegion ops (i::rest)::k),callers:=cs,status:=.running,dying:=none} w=
  stepG.apply P true (fr b tm df (.inRegion ops (i::rest)::k)) cs none (execOp (Act.eval ⟨tm,df⟩) o) w:=by
 have he:=PZ (b:=b) (tm:=tm) (df:=df) (.inRegion ops (i::rest)::k);simp only[fr]at he;simp only[stepG,fr,stepG.exec,ho,jU,hw,uT,if_true,stepG.oper,Frame.oper?,he];split
 ·rename_i l c hr hc;rcases hd with hd|hd
  ·rw[hd]at hr;cases hr
  ·exact absurd hc (hd c)
 ·rfl
theorem Gj(ho:ops[i]? =some o)(hw:Region.wanted o (yielded ops tm)=true)(hd:b.roundOf=none\/∀c,o.op≠.defer c){r:Next}{v:Value}{w':World}
 (hr:(execOp (Act.eval ⟨tm,df⟩) o).run P w=.ok r w') (hv:r=.value v\/(r=.skip/\v=undef)):
 step P (lone (fr b tm df (.inRegion ops (i::rest)::k)) cs w)=.next (lone (fr b (oI tm o.dst v) df (.inRegion ops rest::k)) cs w'):=by
 have hf:=DD (b:=b) (tm:=tm) (df:=df) (k:=k) (ops:=ops) (i:=i) (rest:=rest) (v:=v);rw[ho]at hf;simp only[iV]at hf;rw[<- hf];refine step_lone_go ?_;rw[zK ho hw hd];rcases hv with rfl|⟨rfl,rfl⟩<;>simp[stepG.apply,hr]
theorem Yr(ho:ops[i]? =some o)(hw:Region.wanted o (yielded ops tm)=true)(hd:b.roundOf=none\/∀c,o.op≠.defer c){f:FuncId}{args:Array Value}{w':World}
 (hr:(execOp (Act.eval ⟨tm,df⟩) o).run P w=.ok (.enter f args) w'):
 step P (lone (fr b tm df (.inRegion ops (i::rest)::k)) cs w)=.next (lone (Frame.enter P f args .normal) (fr b tm df (.inRegion ops (i::rest)::k)::cs) w'):=by
 refine step_lone_go ?_;rw[zK ho hw hd];simp[stepG.apply,hr,fr]
theorem Yt(ho:ops[i]? =some o)(hw:Region.wanted o (yielded ops tm)=true)(hd:b.roundOf=none\/∀c,o.op≠.defer c){l:Nat}{f:FuncId}{tmps:Array Value}{x y:Code}{w':World}
 (hr:(execOp (Act.eval ⟨tm,df⟩) o).run P w=.ok (.round l f tmps x y) w'):
 step P (lone (fr b tm df (.inRegion ops (i::rest)::k)) cs w)=.next (lone (Frame.round l f tmps x y .normal) (fr b tm df (.inRegion ops (i::rest)::k)::cs) w'):=by
 refine step_lone_go ?_;rw[zK ho hw hd];simp[stepG.apply,hr,fr]
theorem Yu(ho:ops[i]? =some o)(hw:Region.wanted o (yielded ops tm)=true)(hd:b.roundOf=none\/∀c,o.op≠.defer c){v:Value}{w':World}
 (hr:(execOp (Act.eval ⟨tm,df⟩) o).run P w=.halt (.panic v) w'):
 step P (lone (fr b tm df (.inRegion ops (i::rest)::k)) cs w)=.next (lone {fr b tm df (.inRegion ops (i::rest)::k)with mode:=.panicking [{v,recovered:=false}]} cs w'):=by
 refine step_lone_go ?_;rw[zK ho hw hd];simp[stepG.apply,hr,fr,Frame.raise]
theorem Yv(ho:ops[i]? =some o)(hw:Region.wanted o (yielded ops tm)=true)(hro:b.roundOf=none){d:Deferred}{w':World}
 (hr:(execOp (Act.eval ⟨tm,df⟩) o).run P w=.ok (.defer d) w'):
 step P (lone (fr b tm df (.inRegion ops (i::rest)::k)) cs w)=.next (lone (fr b (oI tm o.dst undef) (d::df) (.inRegion ops rest::k)) cs w'):=by
 have hf:=DD (b:=b) (tm:=tm) (df:=d::df) (k:=k) (ops:=ops) (i:=i) (rest:=rest) (v:=undef);rw[ho]at hf;simp only[iV]at hf;rw[<- hf];refine step_lone_go ?_;rw[zK ho hw (.inl hro)];simp[stepG.apply,hr,fr]
theorem P6(ho:ops[i]? =some o)(hw:Region.wanted o (yielded ops tm)=true)(hro:b.roundOf=none){w':World}
 (hr:(execOp (Act.eval ⟨tm,df⟩) o).run P w=.ok .recover w'):
 step P (lone (fr b tm df (.inRegion ops (i::rest)::k)) cs w)=match tryRecover (fr b tm df (.inRegion ops (i::rest)::k)) cs with
  |some (v,cs')=>.next (lone (fr b (oI tm o.dst v) df (.inRegion ops rest::k)) cs' w')
  |none=>.next (lone (fr b (oI tm o.dst .nilIface) df (.inRegion ops rest::k)) cs w'):=by
 have hf:=λv=>DD (b:=b) (tm:=tm) (df:=df) (k:=k) (ops:=ops) (i:=i) (rest:=rest) (v:=v);rw[ho]at hf;simp only[iV]at hf;have hre:(fr b tm df (.inRegion ops (i::rest)::k)).roundOf=none:=hro;cases ht:tryRecover (fr b tm df (.inRegion ops (i::rest)::k)) cs with
 |none=>
  exact qn
 |some p=>
  obtain⟨v,cs'⟩:=p;exact qn
end
end Go.Ideal
namespace Go.Ideal
variable {P:Program}
variable{ρ:Operand->Value}{h:IH}{c:aB}{v:Value}
theorem P7{h':IH}(hl:heavy c=false)(hm:c.makes=false)(hr:c.run P ρ h=some (v,h')):h'=h:=by
 cases c<;>first|(cases hl;done)|(cases hm;done)|skip
 all_goals
  simp only[aB.run,Bool.cond_eq_ite]at hr;repeat' split at hr
  all_goals first
   |(cases hr;done)
   |(simp only[aA,cO]at hr;exact hr.2.symm)
variable{h2:IH}
theorem P8{m:Value}(hs:∀i o,h.get i=some o->h2.get i=some o){es:List MapEntry}(he:entriesOf m h=some es):entriesOf m h2=some es:=by
 unfold entriesOf at he⊢;split at he
 ·exact he
 ·rename_i i;split at he
  ·rename_i es1 c hg;simp only[hs _ _ hg];exact he
  ·cases he
 ·cases he
theorem Yw(hl:heavy c=false)(hm:c.makes=false)(hs:∀i o,h.get i=some o->h2.get i=some o)(hr:c.run P ρ h=some (v,h)):c.run P ρ h2=some (v,h2):=by
 cases c<;>first|(cases hl;done)|(cases hm;done)|skip
 case gB a=>
  simp only[aB.run]at hr⊢;split at hr
  ·split at hr
   ·rename_i u hu;simp only[aA,cO,xR]at hr;simp only[WZ hs hu,hr]
   ·cases hr
  ·cases hr
 case qc n a=>
  simp only[aB.run]at hr⊢;split at hr
  ·split at hr
   ·rename_i cs hg;simp only[Pt hs hg];exact pS
   ·cases hr
  ·cases hr
 case FP a=>
  simp only[aB.run]at hr⊢;split at hr
  ·exact pS
  ·split at hr
   ·rename_i cs hg;simp only[Pt hs hg];split at hr
    ·rename_i bs hb;simp only[aA,cO,xR]at hr;simp only[hb,hr]
    ·cases hr
   ·cases hr
  ·cases hr
 case lookup kt z m k ok=>
  simp only[aB.run,zu]at hr⊢;split at hr
  ·rename_i u hu;split at hu
   ·cases hu
   ·rename_i es hes;simp only[P8 hs hes];simp only[aA,cO,xR]at hr;rw[hu];simp only[hr]
  ·cases hr
 case entry x=>
  simp only[aB.run]at hr⊢;split at hr
  ·split at hr
   ·rename_i m since seen stepped hg;simp only[hs _ _ hg];split at hr
    ·rename_i es clock hgm;simp only[hs _ _ hgm];split at hr
     ·rename_i stamp hst;cases hb:Nat.beq clock stepped with
      |false=>rw[hb]at hr;cases hr
      |true=>
       rw[hb]at hr;simp only[cond_true]at hr⊢;split at hr
       ·rename_i e he;exact pS
       ·cases hr
     ·cases hr
    ·cases hr
   ·cases hr
  ·cases hr
 case FW x=>
  simp only[aB.run]at hr⊢;split at hr
  ·rename_i es hes;simp only[P8 hs hes];exact pS
  ·cases hr
 all_goals
  simp only[aB.run,Bool.cond_eq_ite]at hr⊢;repeat' split at hr
  all_goals first
   |(cases hr;done)
   |(simp only[aA,cO,xR]at hr;subst hr;simp_all;done)
   |skip
theorem Yx(hl:∀i o,h.get i=some o->i<h.next)(ob:dQ):∀i o,h.get i=some o->(h.new ob).get i=some o:=λi o hi=>by
 rw[IH.iZ,if_neg (by have:=hl i o hi;omega)];exact hi
theorem Yy(hl:heavy c=false)(hm:c.makes=false)(hp:Bd c=false)(hr:c.run P ρ h=some (v,h))(h2:IH):c.run P ρ h2=some (v,h2):=by
 cases c<;>first|(cases hl;done)|(cases hm;done)|(cases hp;done)|skip
 all_goals
  simp only[aB.run,Bool.cond_eq_ite]at hr⊢;repeat' split at hr
  all_goals first
   |(cases hr;done)
   |(simp only[aA,cO,xR]at hr;subst hr;simp_all;done)
   |skip
variable{ρ':Operand->Value}
theorem KI:∀(parts:List (Nat×Nat×Operand)) (z:List Value),(∀p∈parts,ρ p.2.2=ρ' p.2.2)->qP ρ z parts=qP ρ' z parts:=by
 intro parts;induction parts with
 |nil=>intro z _;rfl
 |cons p parts ih=>
  intro z hp;obtain⟨off,size,x⟩:=p;rw[Kn,Kn,hp (off,size,x) vm];cases cellsOf (ρ' x)with
  |none=>rfl
  |some vs=>
   simp only;split
   ·cases jK z off vs with
    |none=>rfl
    |some cs=>exact ih cs λq hq=>hp q (by simp[hq])
   ·rfl
theorem KJ(l:List Operand)(hp:∀x∈l,ρ x=ρ' x):lT ρ l=lT ρ' l:=by
 rw[wI,wI];exact AY hp
theorem Yz{fs:Array Field}:∀(l:List (Nat×Operand)) (pc:List (Nat×Nat×Operand)),xW P fs l=some pc->∀q∈pc,∃p∈l,q.2.2=p.2:=by
 intro l;induction l with
 |nil=>intro pc h q hq;simp only[xW,aA]at h;subst h;simp at hq
 |cons p l ih=>
  intro pc h q hq;obtain⟨i,x⟩:=p;simp only[xW]at h;split at h
  ·rename_i f r hf hr;split at h
   ·rename_i s hs;simp only[aA]at h;subst h;rcases dH.1 hq with rfl|hq
    ·exact⟨(i,x),vm,rfl⟩
    ·obtain⟨p,hp,he⟩:=ih r hr q hq;exact⟨p,by simp[hp],he⟩
   ·cases h
  ·cases h
theorem KM(x:Option Operand)(h:∀y,x=some y->ρ y=ρ' y):jf ρ x=jf ρ' x:=by
 cases x with
 |none=>rfl
 |some y=>simp[jf,h y rfl]
theorem Bu{o:Oper}(hc:cop P o=some c)(hρ:∀x∈o.op.operands,ρ x=ρ' x)(h:IH):c.run P ρ h=c.run P ρ' h/\c.alloc ρ=c.alloc ρ':=by
 obtain⟨dst,op,type,pos,after,guard⟩:=o;cases op
 case build t ps=>
  have hp:∀p∈ps.toList,ρ p.2=ρ' p.2:=λp hp=>hρ p.2 A0;simp only[cop]at hc;split at hc
  ·rename_i fs z _ _;split at hc
   ·rename_i pc hpc;simp only[aA]at hc;subst hc;refine⟨?_,rfl⟩;simp only[aB.run];unfold placesOf at hpc;split at hpc
    ·have hq2:∀q∈pc,ρ q.2.2=ρ' q.2.2:=λq hq=>by
      obtain⟨p,h1,h2⟩:=Yz _ _ hpc q hq;have:=hp p h1;rw[<- h2]at this;exact this
     rw[KI pc z hq2]
    ·cases hpc
   ·cases hc
  ·split at hc
   ·rename_i s _;simp only[aA]at hc;subst hc;refine⟨?_,rfl⟩;simp only[aB.run];rw[KI _ _ λq hq=>by obtain⟨p,h1,rfl⟩:=eG.1 hq;exact hp p h1]
   ·cases hc
  ·cases hc
 case buildSlice t n ps=>
  have hp:∀p∈ps.toList,ρ p.2=ρ' p.2:=λp hp=>hρ p.2 A0;simp only[cop]at hc;split at hc
  ·split at hc
   ·split at hc
    ·simp only[aA]at hc;subst hc;simp only[aB.run,aB.alloc];rw[KI _ _ λq hq=>by obtain⟨p,h1,rfl⟩:=eG.1 hq;exact hp p h1];exact⟨rfl,rfl⟩
    ·cases hc
   ·cases hc
  ·cases hc
 case makeFunc fn first captured=>
  simp only[cop]at hc;split at hc
  ·simp only[aA]at hc;subst hc;refine⟨?_,rfl⟩;simp only[aB.run];rw[KJ first.toList λx hx=>hρ x DE,KJ captured.toList λx hx=>hρ x DG]
  ·cases hc
 case slice t x lo hi mx=>
  have h0:ρ x=ρ' x:=hρ x wk;have h1:=KM (ρ:=ρ) (ρ':=ρ') lo λy hy=>hρ y yW;have h2:=KM (ρ:=ρ) (ρ':=ρ') hi λy hy=>hρ y yW;have h3:=KM (ρ:=ρ) (ρ':=ρ') mx λy hy=>hρ y yW;simp only[cop]at hc;split at hc
  ·simp only[aA]at hc;subst hc;simp only[aB.run,aB.alloc,h0,h1,h2,h3,and_self]
  ·exact qT
  ·exact qT
  ·cases hc
 case call cl=>
  obtain⟨callee,args,ats⟩:=cl;cases callee with
  |value f=>simp only[cop,aA]at hc;subst hc;exact⟨rfl,rfl⟩
  |invoke x n=>simp only[cop,aA]at hc;subst hc;exact⟨rfl,rfl⟩
  |builtin b=>
   have hargs:∀x∈args.toList,ρ x=ρ' x:=λx hx=>hρ x Ds;have hl:=KJ args.toList hargs;simp only[cop]at hc;repeat' split at hc
   all_goals first
    |contradiction
    |(cases hc;done)
    |skip
   all_goals first
    |(simp only[aA]at hc;subst hc)
    |(simp only[jV]at hc;obtain⟨_,_,rfl⟩:=hc)
   all_goals first
    |exact⟨rfl,rfl⟩
    |(simp only[aB.run,aB.alloc,hl,and_self];done)
    |(simp only[*,dH,Fy,or_false,forall_eq_or_imp,forall_eq]at hargs
      simp only[aB.run,aB.alloc,hargs,and_self])
 all_goals
  simp only[cop]at hc;repeat' split at hc
  all_goals first
   |contradiction
   |(cases hc;done)
   |skip
 all_goals first
  |(simp only[aA]at hc;subst hc)
  |(simp only[jV]at hc;obtain⟨_,_,rfl⟩:=hc)
  |(simp only[reduceCtorEq]at hc;done)
 all_goals (simp[Op.operands]at hρ;simp only[aB.run,aB.alloc,hρ,and_self])
