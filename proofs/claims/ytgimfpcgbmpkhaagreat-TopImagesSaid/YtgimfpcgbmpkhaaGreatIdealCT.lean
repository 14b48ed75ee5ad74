/- Part. -/
import Derived.Test.YtgimfpcgbmpkhaaGreatIdealAT
import Derived.Laws.BytesString
import Derived.Recover
import Derived.RangeFuncRecord
set_option linter.all false
namespace Go.Ideal
variable {P:Program} {β:aQ} {h:IH} {w:World}
def afJ(v:ah)(l:ae ah):D9 (v::l)=match v,D9 l with
 | .int .u8 k,some r=>some (UInt8.ofNat k.toNat::r)
 |_,_=>none:=rfl
def afK{cs:ae ah}{bs:ae UInt8}(h:D9 cs=some bs):∃ns:ae Int,cs=ns.map (Value.int .u8)/\bs=ns.map λn=>UInt8.ofNat n.toNat:=by
 induction cs generalizing bs with
 |nil=>change some []=some bs at h;simp only[bC]at h;exact⟨[],rfl,by rw[<- h];rfl⟩
 |cons v l ih=>
  rw[afJ]at h;split at h
  .rename_i k r hr;simp only[bC]at h;obtain⟨ns,h1,h2⟩:=ih hr;exact⟨k::ns,by simp[h1],by simp[<- h,h2]⟩
  .cases h
def afL(ns:ae Int):∀(r:ByteArray),ns.foldl (λr n=>r.push (UInt8.ofNat n.toNat)) r=⟨r.data++(ns.map λn=>UInt8.ofNat n.toNat).toArray⟩:=by
 induction ns with
 |nil=>intro r;simp
 |cons n ns ih=>intro r;simp only[vI];rw[ih];simp[ByteArray.push]
def afM{ns:ae Int}{l':ae ah}(h:bB β (ns.map (Value.int .u8)) l'):l'=ns.map (Value.int .u8):=by
 induction ns generalizing l' with
 |nil=>cases h;rfl
 |cons n ns ih=>cases h with|cons hv hl=>rw[hv.oh,ih hl];rfl
section
variable {dst:az Tmp} {type:aM} {pos:String} {after:Array Edge} {guard:az (Nat×Bool)} {c:aR} {ρ ρ':aB->ah} {v:ah} {h':IH}
variable{x:aB}
def afN{s d:aM}(hc:cop P ⟨dst,.convert s d x,type,pos,after,guard⟩=some c)(hr:c.run P ρ h=some (v,h'))(hx:VR β (ρ x) (ρ' x))(hW:WR P β h w):
 Good P β h w (execOp ρ' ⟨dst,.convert s d x,type,pos,after,guard⟩) v h':=by
 have auF:∀y,c=.conv s d y->y=x->Good P β h w (execOp ρ' ⟨dst,.convert s d x,type,pos,after,guard⟩) v h':=by
  rintro y rfl rfl;simp only[aR.run]at hr;cases hf:dQ (ρ y)with
  |false=>rw[hf]at hr;cases hr
  |true=>
   rw[hf]at hr;simp only[cond_true]at hr;split at hr
   .rename_i u hu;simp only[bC,lQ]at hr;obtain⟨rfl,rfl⟩:=hr;obtain⟨h1,h2⟩:=Jo hu;have hx':=hx.sQ hf;exact Good.same hW (v':=u) Cl (VR.free h2)
   .cases hr
 simp only[cop]at hc;split at hc
 .cases hc
 .rename_i e hs hd;split at hc
  .rename_i he;cases hc;simp only[aR.run]at hr;split at hr
   .rename_i n k ha;obtain⟨rfl,rfl⟩:=hr;rw[ha]at hx;have hx':ρ' x=.slice none n k:=by generalize ρ' x=y at hx;cases hx;rfl
    refine Good.same hW (v':=.string .empty) ?_ (.string _);have:=run_convert_bytes_string (P:=P) w s d e none n k hs he hd;simp only[execOp,hx',dY,this];simp[Conv.bytesToString]
   .rename_i i o f n k ha;split at hr
    .rename_i cs hcs;split at hr
     .rename_i bs hbs;obtain⟨rfl,rfl⟩:=hr;rw[ha]at hx;obtain⟨g,a,c',hg,hx',ha1,ha2,hn,hcc,hoff,_⟩:=hx.oK;obtain⟨cs0,q1,q2⟩:=Gb hcs;obtain⟨m1,m2,l',m3,m4⟩:=MJ hW hg q1 q2;obtain⟨ns,n1,n2⟩:=afK hbs;subst n1;have hl':=afM m3;subst hl';have hload:(loadCells a n).run P w=.ok (ns.map (Value.int .u8)).toArray w:=by
       rcases hoff with h0|⟨h0,ha2⟩
       .have hn0:n=0:=by omega
        subst hn0;have:ns=[]:=by
         grind
        subst this;simp[loadCells,loadCellsFrom]
       .obtain⟨ab,ao,as⟩:=a;subst ha1 ha2 h0;have:=Q8 (P:=P) (w:=w) (b:=g.b) (o:=g.off+o) m1 m4;simpa using this
      refine Good.same hW (v':=.string ⟨⟨bs⟩⟩) ?_ (.string _);simp only[execOp,hx',dY,run_convert_bytes_string (P:=P) w s d e (some a) n c' hs he hd,run_bytesToString w a n c' ns hload,eZ,fZ,afL,n2];have he0:ByteArray.empty.data= #[]:=rfl
      grind
     .cases hr
    .cases hr
   .cases hr
  .cases hc
 .cases hc
 .grind
 .cases hc
def afO{t:aM}{y:aB}(hc:cop P ⟨dst,.index t x y,type,pos,after,guard⟩=some c)(hr:c.run P ρ h=some (v,h'))(hx:VR β (ρ x) (ρ' x))(hy:VR β (ρ y) (ρ' y))(hW:WR P β h w):
 Good P β h w (execOp ρ' ⟨dst,.index t x y,type,pos,after,guard⟩) v h':=by
 simp only[cop]at hc;split at hc
 .rename_i n e hu;split at hc
  .rename_i s d hs hd;cases hc;obtain⟨hs1,hs2⟩:=wY hs;simp only[aR.run]at hr;split at hr
   .rename_i cs k i ha hi;rw[ha]at hx;rw[hi]at hy;obtain⟨cs',h1,h2,hx'⟩:=hx.Q9;have hy':=hy.oh;cases hb:Nat.blt i n with
    |false=>rw[hb]at hr;cases hr
    |true=>
     rw[hb]at hr;simp only[cond_true]at hr;have hlt:i<n:=tI
     have hr':h'=h/\(match kQ P e with
      |true=>match jR (kD cs (i*s)) s with
       |some l=>some (.agg ⟨l⟩:ah)
       |none=>none
      |false=>lW cs (i*s))=some v:=by
      cases hagg:kQ P e with
      |true=>
       rw[hagg]at hr;simp only at hr⊢;split at hr
       .rename_i l hl;have hl:jR (kD cs (i*s)) s=some l:=hl;exact rj
       .cases hr
      |false=>
       rw[hagg]at hr;simp only at hr⊢;split at hr
       .rename_i l hl;have hl:lW cs (i*s)=some l:=hl;exact rj
       .cases hr
     obtain⟨rfl,hr2⟩:=hr';obtain⟨v',p1,p2⟩:=XH hd hs1 h1 h2 hr2 w;refine Good.same hW (v':=v') ?_ p2;simp only[execOp,Instr.index,dY,gY hu,eZ,hx',hy',asIntOf,fZ,pq hs1];rw[if_pos ⟨s7,th⟩];simp[pq hs1,p1]
   .cases hr
  .cases hc
 .rename_i hu;cases hc;simp only[aR.run]at hr;split at hr
  .rename_i s k i ha hi;rw[ha]at hx;rw[hi]at hy;have hx':=hx.Eh;have hy':=hy.oh;split at hr
   .rename_i b hb;obtain⟨rfl,rfl⟩:=hr;rw[uE]at hb;refine Good.same hW (v':=.int .u8 b.toNat) ?_ (.int _ _);have hlt:i<s.size:=by
     have:=(bz.1 hb).1;exact this
    have hb2:s[i]? =some b:=by
     rw[getElem?_pos s i hlt];exact congrArg some (bz.1 hb).2
    simp only[execOp,Instr.index,dY,gY hu,eZ,hx',hy',asIntOf,fZ];have h0:(0:Int)<=Int.ofNat i:=s7
    rw[if_pos h0];simp only[Int.ofNat_eq_natCast,fI,hb2];rfl
   .cases hr
  .cases hr
 .cases hc
def Em(b:Builtin)(args:Array aB)(ats:Array aM)(ρ:aB->ah):
 execOp ρ ⟨dst,.call {callee:=.builtin b,args,argTypes:=ats},type,pos,after,guard⟩=builtin b ats type (args.map λ| .const _=>true|_=>false) (args.map ρ):=rfl
variable{args:Array aB}{ats:Array aM}
def afP(ha:args.toList=[x])(hc:cop P ⟨dst,.call {callee:=.builtin .len,args,argTypes:=ats},type,pos,after,guard⟩=some c)
 (hr:c.run P ρ h=some (v,h')) (hx:VR β (ρ x) (ρ' x)) (hW:WR P β h w):
 Good P β h w (execOp ρ' ⟨dst,.call {callee:=.builtin .len,args,argTypes:=ats},type,pos,after,guard⟩) v h':=by
 obtain rfl:args= #[x]:=by grind
 rw[Em];simp only[cop]at hc;split at hc
 .rename_i t ht;have hm:(#[x].map ρ')= #[ρ' x]:=by simp
  rw[hm];split at hc
  .rename_i hu;cases hc;simp only[aR.run]at hr;split at hr
   .rename_i s hs;simp only[bC,lQ]at hr;obtain⟨rfl,rfl⟩:=hr;rw[hs]at hx;refine Good.same hW (v':=goInt s.size) ?_ (.int _ _);simp[builtin,Builtin.len_,ht,hx.Eh,gY hu]
   .cases hr
  .rename_i n e hu;cases hc;simp only[aR.run,bC,lQ]at hr;obtain⟨rfl,rfl⟩:=hr;refine Good.same hW (v':=goInt n) ?_ (.int _ _);simp[builtin,Builtin.len_,ht,gY hu]
  .rename_i p hu;split at hc
   .rename_i n e hu2;cases hc;simp only[aR.run,bC,lQ]at hr;obtain⟨rfl,rfl⟩:=hr;refine Good.same hW (v':=goInt n) ?_ (.int _ _);simp[builtin,Builtin.len_,ht,gY hu,gY hu2]
   .cases hc
  .rename_i e hu;cases hc;simp only[aR.run]at hr;split at hr
   .rename_i a n k hs;simp only[bC,lQ]at hr;obtain⟨rfl,rfl⟩:=hr;rw[hs]at hx;have hx':∃a' k',ρ' x=.slice a' n k':=by generalize ρ' x=y at hx;cases hx<;>exact⟨_,_,rfl⟩
    obtain⟨a',k',hx'⟩:=hx';refine Good.same hW (v':=goInt n) ?_ (.int _ _);simp[builtin,Builtin.len_,ht,hx',gY hu]
   .cases hr
  .rename_i kt et hu;cases hc;simp only[aR.run]at hr;split at hr
   .rename_i es hes;simp only[bC,lQ]at hr;obtain⟨rfl,rfl⟩:=hr;refine Good.same hW (v':=goInt (jv es)) ?_ (.int _ _);rcases XJ hW hx hes with⟨_,h2,h3⟩|⟨i,g,es',clock,clock',_,_,_,h4,h5,_,h6⟩
    .subst h3;simp[builtin,Builtin.len_,ht,h2,gY hu];rfl
    .have hsz:es'.size=jv es:=by rw[xX,<- Array.length_toList];exact h6.length
     simp[builtin,Builtin.len_,ht,h4,gY hu,Av h5,hsz]
   .cases hr
  .cases hc
 .cases hc
def afQ(ha:args.toList=[x])(hc:cop P ⟨dst,.call {callee:=.builtin .cap,args,argTypes:=ats},type,pos,after,guard⟩=some c)
 (hr:c.run P ρ h=some (v,h')) (hx:VR β (ρ x) (ρ' x)) (hW:WR P β h w):
 Good P β h w (execOp ρ' ⟨dst,.call {callee:=.builtin .cap,args,argTypes:=ats},type,pos,after,guard⟩) v h':=by
 obtain rfl:args= #[x]:=by grind
 rw[Em];simp only[cop]at hc;split at hc
 .rename_i t ht;have hm:(#[x].map ρ')= #[ρ' x]:=by simp
  rw[hm];split at hc
  .rename_i e hu;cases hc;simp only[aR.run]at hr;split at hr
   .rename_i n k hs;obtain⟨rfl,rfl⟩:=hr;rw[hs]at hx;have hx':ρ' x=.slice none n k:=by generalize ρ' x=y at hx;cases hx;rfl
    refine Good.same hW (v':=goInt k) ?_ (.int _ _);simp[builtin,Builtin.cap_,ht,hx',gY hu]
   .rename_i i o n k hs;obtain⟨rfl,rfl⟩:=hr;rw[hs]at hx;obtain⟨g,a,c',hg,hx',_,_,_,_,_,hk⟩:=hx.oK;have hck:c'=k:=by
     grind
    subst hck;refine Good.same hW (v':=goInt c') ?_ (.int _ _);simp[builtin,Builtin.cap_,ht,hx',gY hu]
   .cases hr
  .cases hc
 .cases hc
def XN{mx:Bool}{xs ys:ae ah}{v:ah}{h':IH}{args:ae aB}(hl:o9 ρ args=xs)(hr:(aR.Ce mx args).run P ρ h=some (v,h'))(hxs:bB β xs ys)(hW:WR P β h w):
 h'=h/\VR β v v/\(cond mx (Builtin.max_ #[] 0 ⟨ys⟩) (Builtin.min_ #[] 0 ⟨ys⟩)).run P w=.ok v w:=by
 simp only[aR.run,hl]at hr;split at hr
 .rename_i j a k b;cases hk:Ak j k with
  |false=>rw[hk]at hr;cases hr
  |true=>
   have:=XE hk;rw[hk]at hr;obtain⟨rfl,rfl⟩:=hr;refine⟨rfl,.int _ _,?_⟩;cases hxs with
   |cons h1 h2=>cases h2 with
    |cons h2 h3=>
     cases h3;rw[h1.oh,h2.oh];cases mx
     .simp only[cond_false,Builtin.min_,List.foldlM_cons,List.foldlM_nil,Builtin.min2,uF];simp only[fZ,bind_pure]
      grind
     .simp only[cond_true,Builtin.max_,List.foldlM_cons,List.foldlM_nil,Builtin.max2,uF];simp only[fZ,pure_bind]
      grind
 .cases hf:iY xs with
  |false=>rw[hf]at hr;cases hr
  |true=>
   rw[hf]at hr;split at hr
   .rename_i u hu;obtain⟨rfl,rfl⟩:=hr;obtain⟨h1,h2⟩:=Jo hu;rw[hxs.sQ hf];exact⟨rfl,VR.free h2,Cm h1 w⟩
   .cases hr
def XO{b:Builtin}(hb:b=.min\/b=.max)(hc:cop P ⟨dst,.call {callee:=.builtin b,args,argTypes:=ats},type,pos,after,guard⟩=some c)
 (hr:c.run P ρ h=some (v,h')) (hx:∀x∈args.toList,VR β (ρ x) (ρ' x)) (hW:WR P β h w):
 Good P β h w (execOp ρ' ⟨dst,.call {callee:=.builtin b,args,argTypes:=ats},type,pos,after,guard⟩) v h':=by
 rw[Em];have hxs:=bB.of_map hx;have hargs:args.map ρ'=⟨args.toList.map ρ'⟩:=by grind
 rw[hargs];rcases hb with rfl|rfl
 .have:c=.Ce false args.toList:=by
   simp only[cop]at hc
   grind
  subst this;obtain⟨rfl,m2,m3⟩:=XN rfl hr hxs hW;refine Good.same hW ?_ m2;have m3:(Builtin.min_ ats type ⟨args.toList.map ρ'⟩).run P w=.ok v w:=m3;simp only[builtin,dY,m3,eZ,fZ]
 .have:c=.Ce true args.toList:=by
   simp only[cop]at hc
   grind
  subst this;obtain⟨rfl,m2,m3⟩:=XN rfl hr hxs hW;refine Good.same hW ?_ m2;have m3:(Builtin.max_ ats type ⟨args.toList.map ρ'⟩).run P w=.ok v w:=m3;simp only[builtin,dY,m3,eZ,fZ]
end
end Go.Ideal
namespace Go.Ideal
variable {P:Program} {β:aQ} {h:IH} {w:World}
variable{size n:Nat}{xs:ae ah}
def MP{m:Nat}{x x':ah}(hf:pg size n x h=some xs)(hl:qp x=some m)(hnm:n<=m)(hx:VR β x x')(hW:WR P β h w):
 ∃xs',bB β xs xs'/\xs.all cellV=true/\xs.length=n*size/\(∀w1,(Builtin.lenOf x').run P w1=.ok m w1)/\∀w1:World,w1.heap=w.heap->(Builtin.firstCells size n x').run P w1=.ok ⟨xs'⟩ w1:=by
 unfold pg at hf;split at hf
 .rename_i i o f len cap;simp only[qp,bC]at hl;subst hl;obtain⟨g,a,c',hg,rfl,ha1,ha2,hn,hcc,hoff,_⟩:=hx.oK;obtain⟨cs0,q1,q2⟩:=Gb hf;obtain⟨m1,m2,l',m3,m4⟩:=MJ hW hg q1 q2;refine⟨l',m3,m2,m1,λw1=>rfl,λw1 hw1=>?_⟩;have hll:l'.length=n*size:=m3.length.trans m1;rcases hoff with h0|⟨h0,ha2⟩
  .have hn0:n=0:=by omega
   subst hn0;have:l'=[]:=by
    grind
   subst this;simp[Builtin.firstCells,loadCells,loadCellsFrom]
  .obtain⟨ab,ao,as⟩:=a;subst ha1 ha2 h0;exact run_firstCells_some w1 size n _ _ _ l' hll λj v hj=>by
    rw[addr_add,<- m4 j v hj];simp only[World.cell?,hw1]
 .rename_i len cap;simp only[qp,bC]at hl;subst hl;have hx':x'=.slice none len cap:=by cases hx;rfl
  rw[hx'];clear hx hx';split at hf
  .simp only[bC]at hf;subst hf;exact⟨[],.nil,rfl,s7,λ_=>rfl,λw1 _=>by simp[Builtin.firstCells]⟩
  .cases hf
 .rename_i s;simp only[qp,bC]at hl;subst hl;obtain rfl:=hx.Eh;cases hsz:Nat.beq size 1 with
  |false=>grind
  |true=>
  have hsz1:size=1:=uj hsz;subst hsz1;rw[hsz]at hf;simp only[cond_true]at hf;rw[qM]at hf;split at hf
  .rename_i l hl;split at hl
   .rename_i hle;simp only[bC]at hf hl;subst hf hl;have hfree:iY (o9 (λb:UInt8=>Value.int .u8 b.toNat) (s.data.toList.take n))=true:=by
     rw[xW];generalize s.data.toList.take n=l;induction l with
     |nil=>rfl
     |cons b l ih=>simp[iY,dQ,cellV,ih]
    refine⟨_,bB.free hfree,xY hfree,?_,λ_=>rfl,λw1 _=>?_⟩
    .rw[xW];simp at hle⊢;omega
    .rw[xW];simp only[Builtin.firstCells,fZ];congr 1;apply Array.ext';simp[ByteArray.data_extract,List.extract_eq_take_drop]
   .cases hl
  .cases hf
 .cases hf
def Rs(b:Nat)(o:Nat)(vs:ae ah):(w.setCells b o vs).heap.size=w.heap.size/\(∀x,x≠b->(w.setCells b o vs).heap[x]? =w.heap[x]?)/\
 ((∃c t fz,w.heap[b]? =some (.cells c t fz)/\¬(fz.1<=c.size/\c.size<fz.2))->∃c t fz,(w.setCells b o vs).heap[b]? =some (.cells c t fz)/\¬(fz.1<=c.size/\c.size<fz.2))/\(w.setCells b o vs).tape=w.tape/\(w.setCells b o vs).os=w.os/\(w.setCells b o vs).output=w.output:=by
 refine⟨?_,?_,?_,?_,?_,?_⟩
 .induction vs generalizing o w with
  |nil=>rfl
  |cons v vs ih=>show((w.setCell ⟨b,o,none⟩ v).setCells b (o+1) vs).heap.size=_;rw[ih];simp
 .induction vs generalizing o w with
  |nil=>intro x _;rfl
  |cons v vs ih=>intro x hx;show((w.setCell ⟨b,o,none⟩ v).setCells b (o+1) vs).heap[x]? =_;rw[ih _ x hx,Go.RowKit.Below.heap_setCell _ _ _ _ hx]
 .induction vs generalizing o w with
  |nil=>exact id
  |cons v vs ih=>
   rintro⟨c,t,fz,hh,hz⟩;refine ih _ ⟨c.setIfInBounds o v,t,fz,?_,xa⟩;simp[World.setCell,Array.getElem?_modify,hh]
 .induction vs generalizing o w with
  |nil=>rfl
  |cons v vs ih=>show((w.setCell ⟨b,o,none⟩ v).setCells b (o+1) vs).tape=_;rw[ih];rfl
 .exact(WW b (may:=λ_=>True) vs o w (λ_ _=>trivial)).1
 .exact(WW b (may:=λ_=>True) vs o w (λ_ _=>trivial)).2.1
variable{ats:Array aM}{ty st xt e:aM}{xd:TypeDesc}
def Rt(h0:ats[0]? =some st)(h1:ats[1]? =some xt)(hu:P.underlying st=some (.slice e))(hx:P.underlying xt=some xd)(hni:∀k,xd≠.int k)
 (hs:kP P e=some size) {base:az Addr} {len cap n:Nat} {x:ah} (hl:∀w,(Builtin.lenOf x).run P w=.ok n w) (hle:len+n<=cap) {xs:ae ah} (hf:(Builtin.firstCells size n x).run P w=.ok ⟨xs⟩ w)
 {w':World} (hst:(match base with|some a=>storeCells (a.add (len*size)) xs|none=>pure ()).run P w=.ok () w'):
 (Builtin.append_ ats ty #[.slice base len cap,x]).run P w=.ok (.slice base (len+n) cap) w':=by
 have hz:(match xd with| .int _=>true|_=>false)=false:=by cases xd<;>first|rfl|grind
 simp only[Builtin.append_,h0,h1,QE,FE,IP,dY,gY hu,gY hx,pq hs,eZ,fZ,hz,DR,if_false,hl,hle,if_true,Bool.not_false,hf];cases base with
 |none=>cases hst;rfl
 |some a=>simp only[dY,hst,eZ,fZ]
def afR{i:TypeInfo}{z:ah}(h0:ats[0]? =some st)(h1:ats[1]? =some xt)(hu:P.underlying st=some (.slice e))(hx:P.underlying xt=some xd)(hni:∀k,xd≠.int k)
 (hs:kP P e=some size) (hi:P.info? e=some i) (hz:i.zero=some z) (hzl:z.cells.size=size) {base:az Addr} {len cap n:Nat} {x:ah} (hl:∀w,(Builtin.lenOf x).run P w=.ok n w) (hgt:cap<len+n)
 (hb:0<i.bytes) (hfit:(len+n)*i.bytes<=1073741824) {xs olds:ae ah} (hf:∀w1:World,w1.heap=w.heap->(Builtin.firstCells size n x).run P w1=.ok ⟨xs⟩ w1) (hfo:∀w1:World,w1.heap=w.heap->(Builtin.firstCells size len (.slice base len cap)).run P w1=.ok ⟨olds⟩ w1):
 ∃c rest,len+n<=c/\rest.length=(c - (len+n))*size/\
  (Builtin.append_ ats ty #[.slice base len cap,x]).run P w=.ok (.slice (some ⟨w.heap.size,0,none⟩) (len+n) c) {w.drew with heap:=w.heap.push (.cells ⟨olds++xs++rest⟩ e)}:=by
 have hz0:(match xd with| .int _=>true|_=>false)=false:=by cases xd<;>first|rfl|grind
 have hn:¬(len+n<=cap):=s6
 have hnb:len+n<=(len+n)*i.bytes:=Nat.le_mul_of_pos_right _ hb;have h63':¬(9223372036854775807<((len:Int)+(n:Int))):=s6
 have h48':¬(281474976710656<Builtin.nextslicecap (len+n) cap*i.bytes):=by
  have:=growslice_fits (need:=len+n) (old:=cap) (bytes:=i.bytes) hgt s6;omega
 refine⟨grownCap w (len+n) cap e,(Builtin.zeroCells z.cells (grownCap w (len+n) cap e - (len+n))).toList,?_,?_,?_⟩
 .unfold grownCap Question.cut;grind
 .simp[Builtin.zeroCells,hzl]
 .have hf':=hf w.drew rfl;have afS:=hfo w.drew rfl;have hsz:i.size=size:=by simpa[kP,hi]using hs
  simp[Builtin.append_,h0,h1,gY hu,gY hx,sizeOf,typeInfo,zeroValue,hi,hz,hl,hn,h63',h48',Question.forced,hz0,hsz,hf',afS,newRow,grownCap];have:∀Z:Array ah,((⟨olds⟩:Array ah)++((⟨xs⟩:Array ah)++Z))=⟨olds++(xs++Z.toList)⟩:=(by grind)
  rw[this];rfl
def afT{bytes:Nat}{s v:ah}{h':IH}(hr:Cf size bytes s n xs h=some (v,h')):∃base len cap,s=.slice base len cap/\(len+n)*bytes<=small/\(len+n)*size<=small/\
 ((len+n<=cap/\((∃i o f,base=some ⟨i,o,f⟩/\h.storeAt i (o+len*size) xs=some h'/\v=.slice (some ⟨i,o,f⟩) (len+n) cap)\/(base=none/\n=0/\h'=h/\v=.slice none (len+n) cap)))\/
   (¬len+n<=cap/\∃old,pg size len s h=some old/\v=.slice (some ⟨h.next,0,some size⟩) (len+n) (len+n)/\
     ((∃i o,base=some ⟨i,o,some size⟩/\0<size/\h'=(h.kill i).new (.cells (mq old xs)))\/((∀i o k,base≠some ⟨i,o,some (k+1)⟩)/\h'=h.new (.cells (mq old xs)))))):=by
 unfold Cf at hr;split at hr
 .rename_i base len cap;simp only at hr;cases hc:(((len.add n).mul bytes).ble small&&((len.add n).mul size).ble small&&(len.add n).ble small)with
  |false=>rw[hc]at hr;cases hr
  |true=>
   rw[hc]at hr;simp only[gV]at hc;refine⟨base,len,cap,rfl,pQ hc.1.1,pQ hc.1.2,?_⟩;cases hle:Nat.ble (len.add n) cap with
   |true=>
    refine .inl ⟨pQ hle,?_⟩
    grind
   |false=>
    rw[hle]at hr;simp only[cond_false]at hr;refine .inr ⟨λhh=>?_,?_⟩
    .have:=LZ hh
     grind
    .split at hr
     .cases hr
     .rename_i old hold;refine⟨old,hold,?_⟩;split at hr
      .rename_i i o k;cases hb:Nat.beq (Nat.succ k) size with
       |false=>rw[hb]at hr;cases hr
       |true=>
        have hk:k+1=size:=uj hb
        grind
      grind
 .cases hr
def Ru(hW:WR P β h w){i o d:Nat}{g:jk}{a:Addr}(hg:β i=some g)(ha1:a.block=g.b){vs vs':ae ah}(hoff:vs=[]\/(a.off=g.off+o/\a.spot=none)){h':IH}(hs:h.storeAt i (o+d) vs=some h')(hv:bB β vs vs')(hall:vs.all cellV=true):
 ∃w',(∀k,k=0->(storeCells (a.add d) vs' k).run P w=.ok () w')/\WR P β h' w'/\Eff β h w β h' w':=by
 obtain⟨m1,m2,m3⟩:=Gc hW hg hs hv hall;refine⟨_,λk hk=>?_,m2,m3⟩;subst hk;rcases hoff with h0|⟨h0,ha2⟩
 .subst h0;cases hv;rfl
 .obtain⟨ab,ao,as⟩:=a;subst ha1 ha2 h0;rw[addr_add,pR];exact m1 0 rfl
section
variable {dst:az Tmp} {type:aM} {pos:String} {after:Array Edge} {guard:az (Nat×Bool)} {c:aR} {ρ ρ':aB->ah} {v:ah} {h':IH}
variable{size:Nat}
def afU{n:Nat}{x x':ah}{xs:ae ah}(hf:Aj size n x h=some xs)(hl:qp x=some n)(hx:VR β x x')(hW:WR P β h w):
 ∃xs',bB β xs xs'/\xs.all cellV=true/\xs.length=n*size/\(∀w1,(Builtin.lenOf x').run P w1=.ok n w1)/\∀w1:World,w1.heap=w.heap->(Builtin.firstCells size n x').run P w1=.ok ⟨xs'⟩ w1:=by
 cases n with
 |succ k=>exact MP hf hl (bG _) hx hW
 |zero=>
  cases x with
  |slice a m c=>
   have e:xs=[]:=by
    have hf:some ([])=some xs:=hf
    grind
   subst e;have hm:m=0:=by
    simp only[qp,bC]at hl;exact hl
   subst hm;have hx':∃a' c',x'=.slice a' 0 c':=by cases hx<;>exact⟨_,_,rfl⟩
   obtain⟨a',c',rfl⟩:=hx';refine⟨[],.nil,rfl,s7,λw1=>rfl,λw1 _=>?_⟩;cases a' with
   |none=>simp[Builtin.firstCells]
   |some a'=>simp[Builtin.firstCells,loadCells,loadCellsFrom]
  |string b=>exact MP (x:=.string b) hf hl (bG _) hx hW
  |_=>cases hl
variable{ats:Array aM}{ty st xt e:aM}{i:TypeInfo}{z:ah}
def afV{xd:TypeDesc}(h0:ats[0]? =some st)(h1:ats[1]? =some xt)(hu:P.underlying st=some (.slice e))(hxd:P.underlying xt=some xd)(hni:∀k,xd≠.int k)
 (hs:kP P e=some size) (hsp:0<size) (hi:P.info? e=some i) (hz:i.zero=some z) (hzl:z.cells.size=size) (hb:0<i.bytes) {s s' x x':ah} {n:Nat} {xs:ae ah}
 (hl:qp x=some n) (hf:Aj size n x h=some xs) (hr:Cf size i.bytes s n xs h=some (v,h')) (hvs:VR β s s') (wZ:VR β x x') (hW:WR P β h w):
 ∃w' β' v',(Builtin.append_ ats ty #[s',x']).run P w=.ok v' w'/\VR β' v v'/\WR P β' h' w'/\Eff β h w β' h' w':=by
 obtain⟨xs',x1,x2,x3,x4,x5⟩:=afU hf hl wZ hW;have hxl:xs'.length=n*size:=x1.length.trans x3;obtain⟨base,len,cap,rfl,s1,s2,s3⟩:=afT hr;unfold small at s1 s2;rcases s3 with⟨hle,hin⟩|⟨hgt,old,hold,rfl,hnew⟩
 .
  rcases hin with⟨j,o,f,rfl,hst,rfl⟩|⟨rfl,rfl,rfl,rfl⟩
  .obtain⟨g,a,c',hg,rfl,ha1,ha2,hn,hcc,hoff,hkind⟩:=hvs.oK;have Jv:xs=[]\/(a.off=g.off+o/\a.spot=none):=by
    rcases hoff with hh|hh
    .left;have:n=0:=by omega
     subst this;rw[<- pU,x3];simp
    .exact .inr hh
   obtain⟨w',p1,p2,p3⟩:=Ru hW hg ha1 Jv hst x1 x2;refine⟨w',β,_,Rt h0 h1 hu hxd hni hs x4 (lZ hle hcc) (x5 w rfl) (w':=w') (p1 0 rfl),?_,p2,p3⟩;rcases hkind with⟨rfl,rfl⟩|⟨rfl,k1,k2,k3⟩
   .exact .aA hg ha1 hle hoff
   .exact .qN hg ha1 k3.2 hle k1 k2 k3.1 hcc (hoff.imp id (·.1))
  .have hs':s'=.slice none len cap:=by cases hvs;rfl
   subst hs';refine⟨w,β,_,Rt h0 h1 hu hxd hni hs x4 hle (x5 w rfl) (w':=w) rfl,.sl0 _ _,hW,Eff.refl _ _ _ hW.dom⟩
 .
  obtain⟨old',o1,o2,o3,_,o5⟩:=MP hold rfl (bG _) hvs hW;have hol:old'.length=len*size:=o1.length.trans o3;have hfresh:∀(base':az Addr) (cap':Nat) (h2:IH),s'=.slice base' len cap'->cap'<len+n->h2.next=h.next->WR P β h2 w->Eff β h w β h2 w->h'=h2.new (.cells (mq old xs))->
   ∃w' β' v',(Builtin.append_ ats ty #[s',x']).run P w=.ok v' w'/\VR β' (.slice (some ⟨h.next,0,some size⟩) (len+n) (len+n)) v'/\WR P β' h' w'/\Eff β h w β' h' w':=by
   rintro base' cap' h2 rfl hcap hnext hW2 hE2 rfl;obtain⟨cc,rest,a1,a2,a3⟩:=afR (ty:=ty) h0 h1 hu hxd hni hs hi hz hzl x4 hcap hb s6 x5 o5;have hcap2:(len+n)+(cc - (len+n))=cc:=s6
   have hmul:(len+n)*size+rest.length=cc*size:=by rw[a2,<- wO,hcap2]
   have hlen:(old++xs).length=(len+n)*size:=by rw[fu,o3,x3,wO]
   have hW3:WR P β h2 w.drew:=hW2.qO rfl;have Rv:Eff β h2 w β h2 w.drew:=Eff.qO hW2.dom rfl rfl rfl rfl;have hcells:=OR.Jk (P:=P) (β:=β.add h2.next ⟨w.heap.size,0,(len+n)*size,cc*size,size⟩) (w:=w.drew) (cs:=old++xs) (cs':=old'++xs') e
    ((o1.append x1).mono (aQ.xZ _ hW2.zo)) (by simp[o2,x2]) rest size
   have hcells:OR P (β.add h2.next ⟨w.heap.size,0,(len+n)*size,cc*size,size⟩) ⟨w.heap.size,0,(len+n)*size,cc*size,size⟩ {w.drew with heap:=w.drew.heap.push (.cells ⟨old'++xs'++rest⟩ e)} (.cells (old++xs)):=by
    rw[hlen,hmul]at hcells;exact hcells
   obtain⟨b1,b2⟩:=hW3.alloc (.cells (old++xs)) (.cells ⟨old'++xs'++rest⟩ e) ⟨w.heap.size,0,(len+n)*size,cc*size,size⟩ rfl rfl hcells;refine⟨_,_,_,a3,?_,by rw[kR];exact b1,by rw[kR];exact(hE2.trans Rv).trans b2⟩;have hb:=aQ.mE β h2.next ⟨w.heap.size,0,(len+n)*size,cc*size,size⟩
   rw[<- hnext];exact VR.qN (g:=⟨w.heap.size,0,(len+n)*size,cc*size,size⟩) hb rfl rfl (bG _) hsp s7 s7 a1 (.inr rfl)
  rcases hnew with⟨j,o,rfl,_,rfl⟩|⟨XP,rfl⟩
  .obtain⟨g,a,c',hg,rfl,ha1,ha2,hn,hcc,hoff,hkind⟩:=hvs.oK;obtain⟨k0,k1,k2,k3,ha2⟩:g.sz=size/\0<g.sz/\o+cap*g.sz=g.len/\g.off+o+c'*g.sz=g.top/\a.spot=none:=by
    rcases hkind with hk|hk
    .have:=hk.1;simp at this;omega
    .have:=hk.1;simp at this;exact⟨this.symm,hk.2.1,hk.2.2.1,hk.2.2.2⟩
   obtain⟨cs0,hcs⟩:∃cs,h.get j=some (.cells cs):=by
    unfold pg at hold;obtain⟨cs,q|q,_⟩:=Gb hold
    .exact⟨cs,q⟩
    .have:=(hW.obj j g _ hg q).2.1;omega
   have hlive:h.get j≠none:=by rw[hcs];simp
   by_cases hfit:len+n<=c'
   .
    have hof:a=⟨g.b,g.off+o,none⟩:=by
     have:a.off=g.off+o:=by rcases hoff with hh|hh<;>omega
     obtain⟨ab,ao,as⟩:=a;simp only at ha1 ha2 this;rw[ha1,ha2,this]
    subst hof;obtain⟨q1,q2,q3,q5,q6,q7⟩:=hW.obj j g _ hg hcs;rw[k0]at k1 k2 k3;have hmul:len*size+n*size=(len+n)*size:=(wO _ _ _).symm;have auG:(len+n)*size<=c'*size:=Nat.mul_le_mul_right _ hfit;have hin:∀j,j<xs'.length->g.off+o+len*size+j<g.top:=λj hj=>by omega
    have hone:∀v∈xs',v.oneCell'=true:=λv hv'=>by
     obtain⟨j,hj⟩:=gT hv';have hjl:j<xs.length:=by
      rcases L9 j xs'.length with hh|hh
      .omega
      .rw[fT hh]at hj;cases hj
     obtain⟨v2,hv2,hr⟩:=x1.get (bN hjl);rw[hv2]at hj;cases hj;have hc:=(jU.1 x2) _ (rG hjl);obtain⟨a,b⟩:=hr.cellV hc;cases v<;>first|rfl|exact absurd rfl (a _)|exact absurd rfl (b _)
    have hrun:(storeCells ((⟨g.b,g.off+o,none⟩:Addr).add (len*size)) xs').run P w=.ok () (w.setCells g.b (g.off+o+len*size) xs'):=by
     rw[addr_add];have:=run_storeCells_cells (P:=P) g.b (g.off+o+len*size) xs' 0 w (λj hj=>(q5 _ (hin j hj)).1) (λj hj=>(q5 _ (hin j hj)).2) hone;simpa using this
    obtain⟨hsz,hother,hsame,Ef,hos,hout⟩:=Rs (w:=w) g.b (g.off+o+len*size) xs';refine⟨_,β.add h.next ⟨g.b,g.off+o,(len+n)*size,g.top,size⟩,_,Rt h0 h1 hu hxd hni hs x4 hfit (x5 w rfl) hrun,?_,?_⟩
    .refine VR.qN (g:=⟨g.b,g.off+o,(len+n)*size,g.top,size⟩) (aQ.mE _ _ _) rfl rfl (bG _) hsp s7 th hfit (.inr rfl)
    .rw[kR];have hdr:w.drawn<=(w.setCells g.b (g.off+o+len*size) xs').drawn:=by rw[Jj];exact bG _
     refine hW.Xv hg hlive (by rw[hcs];intro cs e;cases e) (.cells (old++xs)) ⟨g.b,g.off+o,(len+n)*size,g.top,size⟩ rfl hsz hother hos Ef hout hdr ?_;have hle:=aQ.xZ (β:=β) (i:=h.next) ⟨g.b,g.off+o,(len+n)*size,g.top,size⟩ hW.zo;refine⟨hsame q1,?_,?_,?_,by simp[o2,x2],?_⟩
     .show(old++xs).length=(len+n)*size;rw[fu,o3,x3,wO]
     .show g.off+o+(len+n)*size<=g.top;omega
     .intro j hj;refine⟨?_,by rw[Ma];exact(q5 j hj).2⟩;by_cases hr:g.off+o+len*size<=j/\j<g.off+o+len*size+xs'.length
      .have:=FC g.b xs' (g.off+o+len*size) w (λk hk=>(q5 _ (hin k hk)).1) (j - (g.off+o+len*size)) s6;rw[show g.off+o+len*size+(j - (g.off+o+len*size))=j by omega]at this;rw[this];simp
      .rw[BM g.b xs' (g.off+o+len*size) w ⟨g.b,j,none⟩ (λ_ _=>by simp;omega)];exact(q5 j hj).1
     .intro j v hj;show∃v',(w.setCells g.b (g.off+o+len*size) xs').cell? ⟨g.b,g.off+o+j,none⟩=some v'/\VR _ v v';by_cases hjo:j<old.length
      .rw[ql hjo]at hj;obtain⟨auH,r1,r2⟩:=Gb (by unfold pg at hold;exact hold);rw[hcs]at r1;rcases r1 with r1|r1<;>cases r1
       rw[show len.mul size=len*size from rfl,qM,qw]at r2;split at r2
       .simp only[bC]at r2;have hj2:cs0[o+j]? =some v:=by
         rw[<- r2,wP,if_pos s6,rH]at hj;exact hj
        obtain⟨v',t1,t2⟩:=q7 (o+j) v hj2;refine⟨v',?_,t2.mono hle⟩;rw[BM g.b xs' (g.off+o+len*size) w ⟨g.b,g.off+o+j,none⟩ (λ_ _=>by simp;omega)];rw[pR];exact t1
       .cases r2
      .rw[sN s6]at hj;obtain⟨v',t1,t2⟩:=x1.get hj;refine⟨v',?_,t2.mono hle⟩;have hlt:j - old.length<xs'.length:=by
        rcases L9 (j - old.length) xs'.length with hh|hh
        .exact hh
        .rw[fT hh]at t1;cases t1
       have:=FC g.b xs' (g.off+o+len*size) w (λk hk=>(q5 _ (hin k hk)).1) (j - old.length) hlt;rw[show g.off+o+len*size+(j - old.length)=g.off+o+j by omega]at this;rw[this,<- t1,bN hlt]
   .obtain⟨d1,d2⟩:=hW.drop hg;exact hfresh _ c' (h.kill j) rfl s6 rfl d1 d2 rfl
  .have hs':∃base',s'=.slice base' len cap:=by
    cases hvs with
    |sl0=>exact⟨_,rfl⟩
    |aA=>exact⟨_,rfl⟩
    | @qN i' o' n' c1 c1' g' a' _ _ _ _ hz' _ _ _ _=>
      exfalso
      obtain⟨k,hk⟩:∃k,g'.sz=k+1:=⟨g'.sz - 1,s6⟩
      rw[hk]at XP;exact XP _ _ k rfl
   obtain⟨base',rfl⟩:=hs';exact hfresh base' cap h rfl s6 rfl hW (Eff.refl _ _ _ hW.dom) rfl
variable{k:IntKind}
def afW(h0:ats[0]? =some st)(h1:ats[1]? =some xt)(hu:P.underlying st=some (.slice e))(hx:P.underlying xt=some (.int k))
 (hs:kP P e=some size) (hsp:0<size) (hi:P.info? e=some i) (hz:i.zero=some z) (hzl:z.cells.size=size) {m:Nat} (hm:0<m) (hb:0<i.bytes) (hfit:m*i.bytes<=1073741824):
 ∃c rest,m<=c/\rest.length=(c - m)*size/\
  (Builtin.append_ ats ty #[.slice none 0 0,.int .i64 (m:Int)]).run P w=.ok (.slice (some ⟨w.heap.size,0,none⟩) m c) {w.drew with heap:=w.heap.push (.cells ⟨(Builtin.zeroCells z.cells m).toList++rest⟩ e)}:=by
 have hnb:m<=m*i.bytes:=Nat.le_mul_of_pos_right _ hb;have h48':¬(281474976710656<Builtin.nextslicecap m 0*i.bytes):=by
  have:=growslice_fits (need:=m) (old:=0) (bytes:=i.bytes) s6 s6;omega
 have hw:IntKind.i64.wrap (m:Int)=(m:Int):=IntWalk.i64_in (m:Int) (by grind);have hbi:¬((281474976710656:Int)<(m:Int)*(i.bytes:Int)):=by
  grind
 have hneg:¬((m:Int)<0):=s6
 have hms:¬(m*size=0):=by
  have:=Nat.mul_pos hm hsp;omega
 have hm0:¬(m=0):=s6
 have hs0:¬(size=0):=s6
 have h63':¬((9223372036854775807:Int)<(m:Int)):=s6
 refine⟨grownCap w m 0 e,(Builtin.zeroCells z.cells (grownCap w m 0 e - m)).toList,?_,?_,?_⟩
 .unfold grownCap Question.cut;grind
 .simp[Builtin.zeroCells,hzl]
 .have hsz:i.size=size:=by simpa[kP,hi]using hs
  simp[Builtin.append_,h0,h1,gY hu,gY hx,sizeOf,typeInfo,zeroValue,hi,hz,hw,hbi,hneg,hms,hm0,hs0,h63',h48',Question.forced,hsz,newRow,grownCap,asInt,asIntOf,Builtin.firstCells];have:∀Y Z:Array ah,Y++Z=⟨Y.toList++Z.toList⟩:=(by grind)
  rw[this];rfl
def afX{zv:ah}{z:ae ah}(h0:ats[0]? =some st)(h1:ats[1]? =some xt)(hu:P.underlying st=some (.slice e))(hxd:P.underlying xt=some (.int k))
 (hs:kP P e=some size) (hsp:0<size) (hi:P.info? e=some i) (hz:i.zero=some zv) (hzc:zv.cells=⟨z⟩) (hfr:iY z=true) (hzl:z.length=size) (hb:0<i.bytes) {m:Nat} (hm:0<m) (hfit:m*i.bytes<=1073741824) (hW:WR P β h w):
 ∃w' β' v',(Builtin.append_ ats ty #[.slice none 0 0,.int .i64 (m:Int)]).run P w=.ok v' w'/\VR β' (.slice (some ⟨h.next,0,some size⟩) m m) v'/\WR P β' (h.new (.cells (zeros z m))) w'/\Eff β h w β' (h.new (.cells (zeros z m))) w':=by
 have hzs:zv.cells.size=size:=by rw[hzc];exact hzl
 have Jm:z≠[]:=(by grind)
 obtain⟨cc,rest,a1,a2,a3⟩:=afW h0 h1 hu hxd hs hsp hi hz hzs hm hb hfit;have hrow:(Builtin.zeroCells zv.cells m).toList=zeros z m:=by
  unfold Builtin.zeroCells;have:=MM z m Jm
  grind
 rw[hrow]at a3;have hcap2:m+(cc - m)=cc:=s6
 have hlen:(zeros z m).length=m*size:=by rw[zeros_length,hzl]
 have hmul:m*size+rest.length=cc*size:=by grind
 have hW3:WR P β h w.drew:=hW.qO rfl;have Rv:Eff β h w β h w.drew:=Eff.qO hW.dom rfl rfl rfl rfl;have hcells:=OR.Jk (P:=P) (β:=β.add h.next ⟨w.heap.size,0,m*size,cc*size,size⟩) (w:=w.drew) e
  (bB.free (Cq hfr m)) (xY (Cq hfr m)) rest size
 have hcells:OR P (β.add h.next ⟨w.heap.size,0,m*size,cc*size,size⟩) ⟨w.heap.size,0,m*size,cc*size,size⟩ {w.drew with heap:=w.drew.heap.push (.cells ⟨zeros z m++rest⟩ e)} (.cells (zeros z m)):=by
  rw[hlen,hmul]at hcells;exact hcells
 obtain⟨b1,b2⟩:=hW3.alloc (.cells (zeros z m)) (.cells ⟨zeros z m++rest⟩ e) ⟨w.heap.size,0,m*size,cc*size,size⟩ rfl rfl hcells;refine⟨_,_,_,a3,?_,b1,Rv.trans b2⟩;have hb:=aQ.mE β h.next ⟨w.heap.size,0,m*size,cc*size,size⟩
 exact VR.qN hb rfl rfl (bG _) hsp s7 s7 a1 (.inr rfl)
variable{args:Array aB}{x:aB}
def afY{s:aB}(ha:args.toList=[s,x])(hc:cop P ⟨dst,.call {callee:=.builtin .append,args,argTypes:=ats},type,pos,after,guard⟩=some c)
 (hr:c.run P ρ h=some (v,h')) (hs:VR β (ρ s) (ρ' s)) (hx:VR β (ρ x) (ρ' x)) (hW:WR P β h w):
 Good P β h w (execOp ρ' ⟨dst,.call {callee:=.builtin .append,args,argTypes:=ats},type,pos,after,guard⟩) v h':=by
 obtain rfl:args= #[s,x]:=by grind
 rw[Em];have hm:(#[s,x].map ρ')= #[ρ' s,ρ' x]:=s7
 rw[hm];simp only[cop]at hc;split at hc
 .rename_i st xt h0 h1;split at hc
  .rename_i e xd hu hxd;split at hc
   .rename_i size b z hsz hb hz;by_cases hint:∃k,xd=.int k
    .obtain⟨k,rfl⟩:=hint;have hc':c=.Ms e size (b+1) z s x:=by
      grind
     subst hc';obtain⟨zv,i,i1,i2,i3,i4,i5⟩:=Co hz;obtain⟨hs1,hs2⟩:=wY hsz;have hzl:z.length=size:=by
      grind
     have hib:i.bytes=b+1:=by grind
     simp only[aR.run]at hr;split at hr
     .rename_i n hns hnx;rw[hns]at hs;rw[hnx]at hx;have hs':ρ' s=.slice none 0 0:=by
       generalize ρ' s=q at hs;cases hs;rfl
      have hx':ρ' x=.int .i64 ((n+1:Nat):Int):=by
       generalize ρ' x=q at hx;cases hx;rfl
      rw[hs',hx'];cases hcond:(Nat.ble (Nat.mul (n+1) (b+1)) small&&Nat.ble (Nat.mul (n+1) size) small&&Nat.ble (n+1) small)with
      |false=>grind
      |true=>
       rw[hcond]at hr;obtain⟨rfl,rfl⟩:=hr;simp only[gV]at hcond;have hfit:=pQ hcond.1.1;obtain⟨w',β',v',r1,r2,r3,r4⟩:=afX (ty:=type) h0 h1 hu hxd hs1 hs2 i1 i2 i3 i4 hzl s6 (m:=n+1) s6 (by rw[hib];exact hfit) hW;exact r8
     .cases hr
    have hni:∀k,xd≠.int k:=(by grind)
    have hc':c=.append e size (b+1) s x:=by
     grind
    subst hc';obtain⟨zv,i,i1,i2,i3,i4,i5⟩:=Co hz;obtain⟨hs1,hs2⟩:=wY hsz;have hzl:zv.cells.size=size:=by
     grind
    have hib:i.bytes=b+1:=by grind
    simp only[aR.run]at hr;split at hr
    .rename_i n hn;split at hr
     .rename_i xs hxs;rw[<- hib]at hr;obtain⟨w',β',v',r1,r2,r3,r4⟩:=afV (ty:=type) h0 h1 hu hxd hni hs1 hs2 i1 i2 hzl s6 hn hxs hr hs hx hW;exact r8
     .cases hr
    .cases hr
   .cases hc
  .cases hc
 .cases hc
def afZ{d:aB}(ha:args.toList=[d,x])(hc:cop P ⟨dst,.call {callee:=.builtin .copy,args,argTypes:=ats},type,pos,after,guard⟩=some c)
 (hr:c.run P ρ h=some (v,h')) (hd:VR β (ρ d) (ρ' d)) (hx:VR β (ρ x) (ρ' x)) (hW:WR P β h w):
 Good P β h w (execOp ρ' ⟨dst,.call {callee:=.builtin .copy,args,argTypes:=ats},type,pos,after,guard⟩) v h':=by
 obtain rfl:args= #[d,x]:=by grind
 rw[Em];have hm:(#[d,x].map ρ')= #[ρ' d,ρ' x]:=s7
 rw[hm];simp only[cop]at hc;split at hc
 .rename_i dt h0;split at hc
  .rename_i e hu;cases hsz:pW P e with
   |none=>simp[hsz]at hc
   |some size=>
    simp only[hsz,oJ,bC]at hc;subst hc;obtain⟨hs1,hs2⟩:=wY hsz;simp only[aR.run]at hr;unfold Xk at hr;split at hr
    .rename_i base uq af0 m hdv hl;simp only at hr;split at hr
     .cases hr
     .rename_i cs hcs;have hn:(cond (Nat.ble m uq) m uq)=Nat.min m uq:=by
       cases hb:Nat.ble m uq with
       |true=>have:=pQ hb;grind
       |false=>
        have:¬m<=uq:=λhh=>by rw[LZ hh]at hb;cases hb
        grind
      rw[hn]at hr hcs;obtain⟨cs',x1,x2,x3,x4,x5⟩:=MP hcs hl (Nat.min_le_left _ _) hx hW;rw[hdv]at hd;have hmn:m.min uq=min m uq:=rfl;split at hr
      .rename_i i o f;split at hr
       .rename_i h2 hst;obtain⟨rfl,rfl⟩:=hr;obtain⟨g,a,c',hg,hd',ha1,ha2,hnc,hcc,hoff,_⟩:=hd.oK;have Jv:cs=[]\/(a.off=g.off+o/\a.spot=none):=by
         rcases hoff with hh|hh
         .left;have h00:m.min uq=0:=by rw[hmn];omega
          rw[h00]at x3
          grind
         .exact .inr hh
        obtain⟨w',p1,p2,p3⟩:=Ru (d:=0) hW hg ha1 Jv hst x1 x2;have p1:=p1 0 rfl;have hadd:a.add 0=a:=by
         simp[Addr.add]
        rw[hadd]at p1;refine⟨.value (goInt (m.min uq)),w',β,_,?_,.inl rfl,.int _ _,p2,p3⟩;simp only[builtin];refine Ar ?_;simp only[Builtin.copy_,h0,QE,FE,IP,hd',dY,gY hu,eZ,x4,pq hs1,x5 w rfl,p1,fZ]
       .cases hr
      .split at hr
       .rename_i hn0;obtain⟨rfl,rfl⟩:=hr;have hd':ρ' d=.slice none uq af0:=by generalize ρ' d=y at hd;cases hd;rfl
        refine Good.same hW (v':=goInt (m.min uq)) ?_ (by rw[hn0];exact .int _ _);simp only[builtin];refine Ar ?_;simp only[Builtin.copy_,h0,QE,FE,IP,hd',dY,gY hu,eZ,x4,pq hs1,x5 w rfl,fZ]
       .cases hr
    .cases hr
  .cases hc
 .cases hc
def af1(ha:args.toList=[x])(hc:cop P ⟨dst,.call {callee:=.builtin .clear,args,argTypes:=ats},type,pos,after,guard⟩=some c)
 (hr:c.run P ρ h=some (v,h')) (hx:VR β (ρ x) (ρ' x)) (hW:WR P β h w):
 Good P β h w (execOp ρ' ⟨dst,.call {callee:=.builtin .clear,args,argTypes:=ats},type,pos,after,guard⟩) v h':=by
 obtain rfl:args= #[x]:=by grind
 rw[Em];have hm:(#[x].map ρ')= #[ρ' x]:=s7
 rw[hm];simp only[cop]at hc;split at hc
 .rename_i t h0;split at hc
  .rename_i e hu;split at hc
   .rename_i z zs hz;simp only[bC]at hc;subst hc;obtain⟨zv,i,hi,hzv,hzc,hfr,_⟩:=Co hz;simp only[aR.run]at hr;split at hr
    .rename_i j o f n c hxv;split at hr
     .rename_i h2 hst;obtain⟨rfl,rfl⟩:=hr;rw[hxv]at hx;obtain⟨g,a,c',hg,hx',ha1,ha2,hnc,hcc,hoff,_⟩:=hx.oK;have Jv:zeros (z::zs) (n+1)=[]\/(a.off=g.off+o/\a.spot=none):=by
       grind
      obtain⟨w',p1,p2,p3⟩:=Ru (d:=0) hW hg ha1 Jv hst (bB.free (Cq hfr (n+1))) (xY (Cq hfr (n+1)));have p1:=p1 0 rfl;have hadd:a.add 0=a:=by
       simp[Addr.add]
      rw[hadd]at p1;have hrow:(Builtin.zeroCells zv.cells (n+1)).toList=zeros (z::zs) (n+1):=by
       unfold Builtin.zeroCells;rw[hzc];have:=MM (z::zs) (n+1) s7
       grind
      refine⟨.value (.tuple #[]),w',β,_,?_,.inl rfl,.eY _,p2,p3⟩;simp only[builtin];refine Ar ?_;simp only[Builtin.clear_,h0,QE,FE,hx',dY,gY hu,eZ,zeroValue,typeInfo,hi,hzv,run_program,fZ,hrow,p1]
     .cases hr
    .rename_i base c hxv;obtain⟨rfl,rfl⟩:=hr;rw[hxv]at hx;have hx':∃base' c',ρ' x=.slice base' 0 c':=by
      generalize ρ' x=y at hx;cases hx<;>exact⟨_,_,rfl⟩
     obtain⟨base',c',hx'⟩:=hx';refine Good.same hW (v':=.tuple #[]) ?_ (.eY _);simp only[builtin];refine Ar ?_;cases base'<;>simp only[Builtin.clear_,h0,QE,FE,hx',dY,gY hu,eZ,fZ]
    .cases hr
   .cases hc
  .cases hc
 .cases hc
end
end Go.Ideal
namespace Go.Ideal
variable {P:Program} {β:aQ} {h:IH} {w:World}
variable{v:ah}{h':IH}
def XQ{x:az ((Nat->ah)×fw)}(hr:uw x h=some (v,h')):∃f ob,x=some (f,ob)/\v=f h.next/\h'=h.new ob:=by
 unfold uw at hr
 grind
def aR.makes:aR->Bool
 | .new .. | .box .. | .Ah .. | .zl| .xS .. =>true
 |_=>false
variable{c:aR}
def aR.XR(hm:c.makes=true)(ρ:aB->ah)(h:IH):c.run P ρ h=uw (c.alloc ρ) h:=by
 cases c<;>first|rfl|cases hm
variable{o:Oper}{ρ ρ':aB->ah}
def XT{f:Nat->ah}{ob:fw}(hm:c.makes=true)(hc:cop P o=some c)(hρ:∀x∈o.op.operands,VR β (ρ x) (ρ' x))(ha:c.alloc ρ=some (f,ob)):x8 P β w (execOp ρ' o) f ob:=by
 obtain⟨dst,op,type,pos,after,guard⟩:=o;cases op
 case alloc e=>exact ae6 hc ha
 case box e x=>exact ae7 hc ha (hρ x td)
 case buildSlice t n ps=>exact afc hc ha λp hp=>hρ p.2 xb
 case makeMap t r=>exact ae8 hc ha
 case makeSlice t l k=>exact afa hc ha (hρ l td) (hρ k td)
 all_goals
  exfalso
  revert hm;simp only[cop]at hc;repeat' split at hc
  all_goals first
   |contradiction
   |(cases hc;done)
   |(simp only[bC,lT,reduceCtorEq,false_and,and_false,exists_false]at hc;done)
   |(simp only[bC]at hc;subst hc;intro hm;cases hm)
   |(simp only[lT]at hc;obtain⟨_,_,rfl⟩:=hc;intro hm;cases hm)
def XU(hc:cop P o=some c)(hρ:∀x∈o.op.operands,VR β (ρ x) (ρ' x))(hr:c.run P ρ h=some (v,h'))(hW:WR P β h w):
 Good P β h w (execOp ρ' o) v h':=by
 by_cases hm:c.makes=true
 .rw[aR.XR hm]at hr;obtain⟨f,ob,ha,rfl,rfl⟩:=XQ hr;exact(XT hm hc hρ ha).good hW
 obtain⟨dst,op,type,pos,after,guard⟩:=o;cases op
 case move x=>exact afd hc hr (hρ x td) hW
 case assign x=>exact afe hc hr (hρ x td) hW
 case pick x y z=>exact aff hc hr (hρ x td) (hρ y td) (hρ z td) hW
 case build t ps=>exact afh hc hr (λp hp=>hρ p.2 xb) hW
 case load t a=>exact afi hc hr (hρ a td) hW
 case store t a x=>exact afj hc hr (hρ a td) (hρ x td) hW
 case nilCheck x=>exact afk hc hr (hρ x td) hW
 case binOp op t x y yt=>exact afn hc hr (hρ x td) (hρ y td) hW
 case unOp op t x=>exact afo hc hr (hρ x td) hW
 case convert s d x=>exact afN hc hr (hρ x td) hW
 case makeInterface t x=>exact afp hc hr (hρ x td) hW
 case makeFunc fn first captured=>exact afq hc hr (λx hx=>hρ x Cp) (λx hx=>hρ x Cp) hW
 case slice t x lo hi mx=>exact afw hc hr (hρ x td) (λy hy=>hρ y tW) (λy hy=>hρ y tW) (λy hy=>hρ y tW) hW
 case fieldAddr s x f=>exact afs hc hr (hρ x td) hW
 case field t x f=>exact aft hc hr (hρ x td) hW
 case indexAddr t x y=>exact afu hc hr (hρ x td) (hρ y td) hW
 case index t x y=>exact afO hc hr (hρ x td) (hρ y td) hW
 case lookup t m k ok=>exact afD hc hr (hρ m td) (hρ k td) hW
 case mapUpdate t m k x=>exact afE hc hr (hρ m td) (hρ k td) (hρ x td) hW
 case insert t m k x=>exact afF hc hr (hρ m td) (hρ k td) (hρ x td) hW
 case range t x=>exact afG hc hr (hρ x td) hW
 case entry x=>exact afH hc hr (hρ x td) hW
 case typeAssert x xt t ok=>exact afI hc hr (hρ x td) hW
 case extract x i=>exact afv hc hr (hρ x td) hW
 case next it s=>
  cases s with
  |true=>simp[cop]at hc
  |false=>simp only[cop,bC]at hc;subst hc;cases hr
 case panic x=>simp only[cop,bC]at hc;subst hc;cases hr
 case defer cl=>
  obtain⟨callee,args,ats⟩:=cl;cases callee with
  |value f=>simp only[cop,bC]at hc;subst hc;cases hr
  |invoke x n=>simp[cop]at hc
  |builtin b=>simp[cop]at hc
 case call cl=>
  obtain⟨callee,args,ats⟩:=cl;cases callee with
  |value f=>simp only[cop,bC]at hc;subst hc;cases hr
  |invoke x n=>simp only[cop,bC]at hc;subst hc;cases hr
  |builtin b=>
   have hargs:∀x∈args.toList,VR β (ρ x) (ρ' x):=λx hx=>hρ x (by simp only[Op.operands,Call.operands,IQ];grind);cases b
   case append=>
    cases ha:args.toList with
    |nil=>simp[cop,ha]at hc
    |cons s r=>cases r with
     |nil=>simp[cop,ha]at hc
     |cons x r=>cases r with
      |nil=>exact afY ha hc hr (by grind) (by grind) hW
      |cons y r=>simp[cop,ha]at hc
   case copy=>
    cases ha:args.toList with
    |nil=>simp[cop,ha]at hc
    |cons s r=>cases r with
     |nil=>simp[cop,ha]at hc
     |cons x r=>cases r with
      |nil=>exact afZ ha hc hr (by grind) (by grind) hW
      |cons y r=>simp[cop,ha]at hc
   case clear=>
    cases ha:args.toList with
    |nil=>simp[cop,ha]at hc
    |cons s r=>cases r with
     |nil=>exact af1 ha hc hr (by grind) hW
     |cons y r=>simp[cop,ha]at hc
   case len=>
    cases ha:args.toList with
    |nil=>simp[cop,ha]at hc
    |cons s r=>cases r with
     |nil=>exact afP ha hc hr (by grind) hW
     |cons y r=>simp[cop,ha]at hc
   case cap=>
    cases ha:args.toList with
    |nil=>simp[cop,ha]at hc
    |cons s r=>cases r with
     |nil=>exact afQ ha hc hr (by grind) hW
     |cons y r=>simp[cop,ha]at hc
   case min=>exact XO (.inl rfl) hc hr hargs hW
   case max=>exact XO (.inr rfl) hc hr hargs hW
   case recover=>simp only[cop,bC]at hc;subst hc;cases hr
   case panic=>
    cases ha:args.toList with
    |nil=>simp[cop,ha]at hc
    |cons s r=>cases r with
     |nil=>simp only[cop,ha,bC]at hc;subst hc;cases hr
     |cons y r=>simp[cop,ha]at hc
   all_goals (simp[cop]at hc)
 all_goals
  exfalso
  first
   |(simp[cop]at hc;done)
   |(apply hm
     simp only[cop]at hc;repeat' split at hc
     all_goals first
      |contradiction
      |(cases hc;done)
      |(simp only[bC]at hc;subst hc;rfl)
      |(simp only[lT]at hc;obtain⟨_,_,rfl⟩:=hc;rfl))
end Go.Ideal
namespace Go.Ideal
variable {P:Program} {β:aQ} {h:IH} {w:World}
inductive qP(β:aQ):List PanicEntry->List PanicEntry->Prop
 |nil:qP β [] []
 |cons {e e':PanicEntry} {l l':List PanicEntry} (hv:VR β e.v e'.v) (hr:e'.recovered=e.recovered) (hg:e'.goexit=e.goexit) (hl:qP β l l'):qP β (e::l) (e'::l')
variable{β':aQ}
def qP.mono{β:aQ}(h:β.le β'){l l':ae PanicEntry}(k:qP β l l'):qP β' l l':=by
 induction k with
 |nil=>exact .nil
 |cons hv hr hg _ ih=>exact .cons (hv.mono h) hr hg ih
def qP.append{l l' r r':ae PanicEntry}(k:qP β l l')(k2:qP β r r'):qP β (l++r) (l'++r'):=by
 induction k with
 |nil=>exact k2
 |cons hv hr hg _ ih=>exact .cons hv hr hg ih
inductive MR(β:aQ):FrameMode->FrameMode->Prop
 |run:MR β .run .run
 |returning:MR β .returning .returning
 |panicking {l l':List PanicEntry} (h:qP β l l'):MR β (.panicking l) (.panicking l')
def MR.mono{β:aQ}(h:β.le β'){m m':FrameMode}(k:MR β m m'):MR β' m m':=by
 cases k with
 |run=>exact .run
 |returning=>exact .returning
 |panicking k=>exact .panicking (k.mono h)
inductive w9(β:aQ):List Deferred->List Deferred->Prop
 |nil:w9 β [] []
 |fn {fn fn':Fn} {c c' a a':List Value} {l l':List Deferred} (hf:FR β fn fn') (hc:bB β c c') (ha:bB β a a') (hl:w9 β l l'):w9 β ({target:=.fn fn ⟨c⟩,args:=⟨a⟩}::l) ({target:=.fn fn' ⟨c'⟩,args:=⟨a'⟩}::l')
 |coll {r:Nat} {g:jk} {a a':Array Value} {l l':List Deferred} (hr:β r=some g) (hl:w9 β l l'):w9 β ({target:=.collected r,args:=a}::l) ({target:=.collected g.b,args:=a'}::l')
def w9.mono{β:aQ}(h:β.le β'){l l':ae Deferred}(k:w9 β l l'):w9 β' l l':=by
 induction k with
 |nil=>exact .nil
 |fn hf hc ha _ ih=>exact .fn (hf.mono h) (hc.mono h) (ha.mono h) ih
 |coll hr _ ih=>exact .coll (h _ _ hr) ih
structure AR(β:aQ)(X:Nat->Prop)(a:bE)(tm:Array Value)(df:List Deferred):Prop where
 size:tm.size=a.n
 tmps:∀i,¬X i->VR β (dZ a.tmps i) (tm.getD i undef)
 out:∀i,a.n<=i->dZ a.tmps i=eY
 defers:w9 β a.defers df
def none':Nat->Prop:=λ_=>False
def AR.mono{β:aQ}(h:β.le β'){X:Nat->Prop}{a:bE}{tm:Array ah}{df:ae Deferred}(k:AR β X a tm df):AR β' X a tm df:=
 ⟨k.size,λi hi=>(k.tmps i hi).mono h,k.out,k.defers.mono h⟩
def gsz(P:Program)(g:Nat):Nat:=((P.globals[g]?).map λx=>P.cellsOf x.type).getD 0
def jW(P:Program)(β:aQ):Prop:=∀g,g<P.globals.size->∃i,β g=some i/\i.b=g/\i.off=0/\i.top=gsz P g
variable{X:Nat->Prop}{a:bE}{tm:Array ah}{df:ae Deferred}
def AR.eval{iF:ae Deferred}(k:AR β X a tm df)(hG:jW P β){x:aB}(hok:FV P x=true)(hx:∀t,x=.tmp t->¬X t):VR β (a.eval x) (Act.eval ⟨tm,iF⟩ x):=by
 cases x with
 |tmp t=>exact k.tmps t (hx t rfl)
 |const v=>
  unfold FV at hok;split at hok
  .rename_i he;simp only[Operand.const.injEq]at he;subst he;exact .eY _
  .rename_i he;simp only[Operand.const.injEq]at he;subst he;exact VR.free hok
  .rename_i he;cases he
  grind
 |global g=>
  have hlt:g<P.globals.size:=by
   have:Nat.blt g P.globals.size=true:=hok;simpa[wN]using this
  obtain⟨i,hi,h1,h2,_⟩:=hG g hlt;have:=VR.ptr (o:=0) hi;rw[h1,h2]at this;exact this
 |func f=>exact .func (.func f) .nil .nil
def MQ(tm:Array ah)(d:Nat)(v:ah)(j:Nat)(hd:d<tm.size):(tm.setIfInBounds d v).getD j undef=if j=d then v else tm.getD j undef:=by
 simp only[Ac]
 grind
def AR.put(k:AR β X a tm df)(d:az Tmp){v v':ah}(hv:VR β v v'):
 AR β (λi=>X i/\d≠some i) (a.put d v) (match d with|some d=>tm.setIfInBounds d v'|none=>tm) df:=by
 cases d with
 |none=>exact⟨k.size,λi hi=>k.tmps i (by grind),k.out,k.defers⟩
 |some d=>
  show AR β _ (a.set d v) _ df;unfold bE.set;cases hb:Nat.blt d a.n with
  |false=>
   have hge:a.n<=d:=by
    rcases L9 d a.n with hh|hh
    .have:Nat.blt d a.n=true:=by simpa[wN]using hh
     grind
    .exact hh
   have hs:=k.size;have he:tm.setIfInBounds d v'=tm:=by
    grind
   simp only[cond_false];rw[he];refine⟨hs,λi hi=>?_,k.out,k.defers⟩;by_cases hx:X i
   .have hid:i=d:=by
     grind
    subst hid;rw[k.out i hge];exact .eY _
   .exact k.tmps i hx
  |true=>
   have hlt: @LT.lt Nat _ d a.n:=tI
   have hs:=k.size;simp only[cond_true];refine⟨by simpa using hs,λi hi=>?_,λi hi=>?_,k.defers⟩
   rotate_left
   .rw[F6,if_neg (by grind)];exact k.out i hi
   rw[F6,MQ tm d v' i s6];by_cases hid:i=d
   .grind
   .rw[if_neg hid,if_neg hid];exact k.tmps i (by grind)
end Go.Ideal
namespace Go.Ideal
variable {P:Program} {β:aQ} {h:IH} {w:World}
def fr(b:Frame)(tm:Array ah)(df:ae Deferred)(todo:ae Item):Frame:={b with tmps:=tm,todo:=todo,defers:=df,mode:=.run}
section
variable {b:Frame} {tm:Array ah} {df:ae Deferred} {k:ae Item} {cs:ae Frame}
def XV(todo:ae Item):(fr b tm df todo).eval=Act.eval ⟨tm,df⟩:=funext λx=>by cases x<;>rfl
def af3:step P (lone (fr b tm df (.code .skip::k)) cs w)=.next (lone (fr b tm df k) cs w):=step_lone_go tn
def af4{l:Nat}:step P (lone (fr b tm df (.code (.label l)::k)) cs w)=.next (lone (fr b tm df k) cs w):=step_lone_go tn
variable{id:Nat}
def af5:step P (lone (fr b tm df (.inBlock id::k)) cs w)=.next (lone (fr b tm df k) cs w):=step_lone_go tn
variable{c:Code}
def af6:step P (lone (fr b tm df (.inScope c::k)) cs w)=.next (lone (fr b tm df k) cs w):=step_lone_go tn
variable{x y:Code}
def MS:step P (lone (fr b tm df (.code (.seq x y)::k)) cs w)=.next (lone (fr b tm df (.code x::.code y::k)) cs w):=step_lone_go tn
def Jw:step P (lone (fr b tm df (.code (.block id c)::k)) cs w)=.next (lone (fr b tm df (.code c::.inBlock id::k)) cs w):=step_lone_go tn
def af7:step P (lone (fr b tm df (.code (.loop c)::k)) cs w)=.next (lone (fr b tm df (.code c::.inLoop c::k)) cs w):=step_lone_go tn
def af8:step P (lone (fr b tm df (.inLoop c::k)) cs w)=.next (lone (fr b tm df (.code c::.inLoop c::k)) cs w):=step_lone_go tn
def MU:step P (lone (fr b tm df (.code (.scope c)::k)) cs w)=.next (lone (fr b tm df (.code c::.inScope c::k)) cs w):=step_lone_go tn
def af9{c:aB}{t:Bool}(h:Act.eval ⟨tm,df⟩ c=.bool t):
 step P (lone (fr b tm df (.code (.cond c x y)::k)) cs w)=.next (lone (fr b tm df (.code (if t then x else y)::k)) cs w):=
 step_lone_go (by
  have he:=congrFun (XV (b:=b) (tm:=tm) (df:=df) (.code (.cond c x y)::k)) c;rw[h]at he;simp only[fr]at he;simp[stepG,stepG.exec,fr,he])
def aga{k':ae Item}(h:exitTo id k=some k'):step P (lone (fr b tm df (.code (.exit id)::k)) cs w)=.next (lone (fr b tm df k') cs w):=
 step_lone_go (by simp[stepG,stepG.exec,fr,h])
def agb(hr:b.roundOf=none):step P (lone (fr b tm df (.code .ret::k)) cs w)=.next (lone {fr b tm df (.code .ret::k)with mode:=.returning} cs w):=
 step_lone_go CA
def agc(hr:b.roundOf=none):step P (lone (fr b tm df []) cs w)=.next (lone {fr b tm df []with mode:=.returning} cs w):=
 step_lone_go CA
variable{ops:Array Oper}
def agd:step P (lone (fr b tm df (.code (.region id ops false)::k)) cs w)=.next (lone (fr b tm df (.inRegion ops (List.range ops.size)::k)) cs w):=
 step_lone_go tn
def age:step P (lone (fr b tm df (.code (.region id ops true)::k)) cs w)=
 .next (lone (fr b tm df (.inRegion ops (Region.schedule (P.follows .mixedOrders) ops (w.tape w.drawn (.order b.fn id)))::k)) cs {w with drawn:=w.drawn+1}):=
 step_lone_go (by simp[stepG,stepG.exec,fr,Sem.run,Question.forced,Question.cut])
def agf:step P (lone (fr b tm df (.inRegion ops []::k)) cs w)=.next (lone (fr b tm df k) cs w):=
 step_lone_go tn
def sS(tm:Array ah)(d:az Tmp)(v:ah):Array ah:=match d with|some d=>tm.setIfInBounds d v|none=>tm
variable{i:Nat}{rest:ae Nat}
def Jy{v:ah}:(fr b tm df (.inRegion ops (i::rest)::k)).finish v=fr b (sS tm ((ops[i]?).bind (·.dst)) v) df (.inRegion ops rest::k):=by
 cases hd:(ops[i]?).bind (·.dst)<;>simp[Frame.finish,fr,sS,hd]
def XW(hn:((ops[i]?).map (Region.wanted · (yielded ops tm))).getD false=false):
 step P (lone (fr b tm df (.inRegion ops (i::rest)::k)) cs w)=.next (lone (fr b (sS tm ((ops[i]?).bind (·.dst)) undef) df (.inRegion ops rest::k)) cs w):=by
 rw[<- Jy];exact step_lone_go (by
  have h':=hn;simp only[fr]at *;simp[stepG,stepG.exec,h'])
variable{o:Oper}
def En(ho:ops[i]? =some o)(hw:Region.wanted o (yielded ops tm)=true)(hd:b.roundOf=none\/∀c,o.op≠.defer c):
 stepG P true {frame:=fr b tm df (.inRegion ops (i::rest)::k),callers:=cs,status:=.running,dying:=none} w=
  stepG.apply P true (fr b tm df (.inRegion ops (i::rest)::k)) cs none (execOp (Act.eval ⟨tm,df⟩) o) w:=by
 have he:=XV (b:=b) (tm:=tm) (df:=df) (.inRegion ops (i::rest)::k);simp only[fr]at he;simp only[stepG,fr,stepG.exec,stepG.oper,Frame.oper?]
 grind
def MV(ho:ops[i]? =some o)(hw:Region.wanted o (yielded ops tm)=true)(hd:b.roundOf=none\/∀c,o.op≠.defer c){r:Next}{v:ah}{w':World}
 (hr:(execOp (Act.eval ⟨tm,df⟩) o).run P w=.ok r w') (hv:r=.value v\/(r=.skip/\v=undef)):
 step P (lone (fr b tm df (.inRegion ops (i::rest)::k)) cs w)=.next (lone (fr b (sS tm o.dst v) df (.inRegion ops rest::k)) cs w'):=by
 have hf:=Jy (b:=b) (tm:=tm) (df:=df) (k:=k) (ops:=ops) (i:=i) (rest:=rest) (v:=v);rw[ho]at hf;simp only[lS]at hf;rw[<- hf];refine step_lone_go ?_;rw[En ho hw hd];rcases hv with rfl|⟨rfl,rfl⟩<;>simp[stepG.apply,hr]
def agh(ho:ops[i]? =some o)(hw:Region.wanted o (yielded ops tm)=true)(hd:b.roundOf=none\/∀c,o.op≠.defer c){f:gy}{args:Array ah}{w':World}
 (hr:(execOp (Act.eval ⟨tm,df⟩) o).run P w=.ok (.enter f args) w'):
 step P (lone (fr b tm df (.inRegion ops (i::rest)::k)) cs w)=.next (lone (Frame.enter P f args .normal) (fr b tm df (.inRegion ops (i::rest)::k)::cs) w'):=by
 refine step_lone_go ?_;rw[En ho hw hd];simp[stepG.apply,hr,fr]
def agi(ho:ops[i]? =some o)(hw:Region.wanted o (yielded ops tm)=true)(hd:b.roundOf=none\/∀c,o.op≠.defer c){l:Nat}{f:gy}{tmps:Array ah}{x y:Code}{w':World}
 (hr:(execOp (Act.eval ⟨tm,df⟩) o).run P w=.ok (.round l f tmps x y) w'):
 step P (lone (fr b tm df (.inRegion ops (i::rest)::k)) cs w)=.next (lone (Frame.round l f tmps x y .normal) (fr b tm df (.inRegion ops (i::rest)::k)::cs) w'):=by
 refine step_lone_go ?_;rw[En ho hw hd];simp[stepG.apply,hr]
def agj(ho:ops[i]? =some o)(hw:Region.wanted o (yielded ops tm)=true)(hd:b.roundOf=none\/∀c,o.op≠.defer c){v:ah}{w':World}
 (hr:(execOp (Act.eval ⟨tm,df⟩) o).run P w=.halt (.panic v) w'):
 step P (lone (fr b tm df (.inRegion ops (i::rest)::k)) cs w)=.next (lone {fr b tm df (.inRegion ops (i::rest)::k)with mode:=.panicking [{v,recovered:=false}]} cs w'):=by
 refine step_lone_go ?_;rw[En ho hw hd];simp[stepG.apply,hr,fr,Frame.raise]
def agk(ho:ops[i]? =some o)(hw:Region.wanted o (yielded ops tm)=true)(hro:b.roundOf=none){d:Deferred}{w':World}
 (hr:(execOp (Act.eval ⟨tm,df⟩) o).run P w=.ok (.defer d) w'):
 step P (lone (fr b tm df (.inRegion ops (i::rest)::k)) cs w)=.next (lone (fr b (sS tm o.dst undef) (d::df) (.inRegion ops rest::k)) cs w'):=by
 have hf:=Jy (b:=b) (tm:=tm) (df:=d::df) (k:=k) (ops:=ops) (i:=i) (rest:=rest) (v:=undef);rw[ho]at hf;simp only[lS]at hf;rw[<- hf];refine step_lone_go ?_;rw[En ho hw (.inl hro)];simp[stepG.apply,hr,fr]
def XX(ho:ops[i]? =some o)(hw:Region.wanted o (yielded ops tm)=true)(hro:b.roundOf=none){w':World}
 (hr:(execOp (Act.eval ⟨tm,df⟩) o).run P w=.ok .recover w'):
 step P (lone (fr b tm df (.inRegion ops (i::rest)::k)) cs w)=match tryRecover (fr b tm df (.inRegion ops (i::rest)::k)) cs with
  |some (v,cs')=>.next (lone (fr b (sS tm o.dst v) df (.inRegion ops rest::k)) cs' w')
  |none=>.next (lone (fr b (sS tm o.dst .nilIface) df (.inRegion ops rest::k)) cs w'):=by
 have hf:=λv=>Jy (b:=b) (tm:=tm) (df:=df) (k:=k) (ops:=ops) (i:=i) (rest:=rest) (v:=v);rw[ho]at hf;simp only[lS]at hf;have hre:(fr b tm df (.inRegion ops (i::rest)::k)).roundOf=none:=hro;cases ht:tryRecover (fr b tm df (.inRegion ops (i::rest)::k)) cs with
 |none=>
  exact oe
 |some p=>
  simp only;exact oe
end
end Go.Ideal
namespace Go.Ideal
variable {P:Program}
variable{ρ:aB->ah}{h:IH}{c:aR}{v:ah}
def XY{h':IH}(hl:heavy c=false)(hm:c.makes=false)(hr:c.run P ρ h=some (v,h')):h'=h:=by
 cases c<;>first|(cases hl;done)|(cases hm;done)|skip
 all_goals
  simp only[aR.run,Bool.cond_eq_ite]at hr;repeat' split at hr
  all_goals first
   |(cases hr;done)
   |(simp only[bC,lQ]at hr;exact hr.2.symm)
variable{h2:IH}
def XZ{m:ah}(hs:∀i o,h.get i=some o->h2.get i=some o){es:ae MapEntry}(he:entriesOf m h=some es):entriesOf m h2=some es:=by
 unfold entriesOf at he⊢
 grind
def agl(hl:heavy c=false)(hm:c.makes=false)(hs:∀i o,h.get i=some o->h2.get i=some o)(hr:c.run P ρ h=some (v,h)):c.run P ρ h2=some (v,h2):=by
 cases c<;>first|(cases hl;done)|(cases hm;done)|skip
 case fG a=>
  simp only[aR.run]at hr⊢;split at hr
  .split at hr
   .rename_i u hu;simp only[bC,lQ,DT]at hr;simp only[ae3 hs hu,hr]
   .cases hr
  .cases hr
 case sO n a=>
  simp only[aR.run]at hr⊢;split at hr
  .split at hr
   .rename_i cs hg;simp only[Xz hs hg];exact pH
   .cases hr
  .cases hr
 case I4 a=>
  simp only[aR.run]at hr⊢;split at hr
  .exact pH
  .split at hr
   .rename_i cs hg;simp only[Xz hs hg];split at hr
    .rename_i bs hb;simp only[bC,lQ,DT]at hr;simp only[hb,hr]
    .cases hr
   .cases hr
  .cases hr
 case lookup kt z m k ok=>
  simp only[aR.run,D8]at hr⊢;split at hr
  .rename_i u hu;split at hu
   .cases hu
   .rename_i es hes;simp only[XZ hs hes];simp only[bC,lQ,DT]at hr;rw[hu];simp only[hr]
  .cases hr
 case Mv x=>
  simp only[aR.run]at hr⊢;split at hr
  .rename_i es hes;simp only[XZ hs hes];exact pH
  .cases hr
 all_goals
  simp only[aR.run,Bool.cond_eq_ite]at hr⊢;repeat' split at hr
  all_goals first
   |(cases hr;done)
   |(simp only[bC,lQ,DT]at hr;subst hr;simp_all;done)
   |skip
def agm(hl:∀i o,h.get i=some o->i<h.next)(ob:fw):∀i o,h.get i=some o->(h.new ob).get i=some o:=λi o hi=>by
 rw[IH.jD,if_neg (by grind)];exact hi
def agn(hl:heavy c=false)(hm:c.makes=false)(hp:FW c=false)(hr:c.run P ρ h=some (v,h))(h2:IH):c.run P ρ h2=some (v,h2):=by
 cases c<;>first|(cases hl;done)|(cases hm;done)|(cases hp;done)|skip
 all_goals
  simp only[aR.run,Bool.cond_eq_ite]at hr⊢;repeat' split at hr
  all_goals first
   |(cases hr;done)
   |(simp only[bC,lQ,DT]at hr;subst hr;simp_all;done)
   |skip
variable{ρ':aB->ah}
def Rw:∀(parts:ae (Nat×Nat×aB)) (z:ae ah),(∀p∈parts,ρ p.2.2=ρ' p.2.2)->vK ρ z parts=vK ρ' z parts:=by
 intro parts;induction parts with
 |nil=>intro z _;rfl
 |cons p parts ih=>
  intro z hp;obtain⟨off,size,x⟩:=p;rw[Ra,Ra,hp (off,size,x) s7]
  grind
def Rx(l:ae aB)(hp:∀x∈l,ρ x=ρ' x):o9 ρ l=o9 ρ' l:=by
 rw[xW,xW];exact yZ hp
def agp{fs:Array Field}:∀(l:ae (Nat×aB)) (pc:ae (Nat×Nat×aB)),Cg P fs l=some pc->∀q∈pc,∃p∈l,q.2.2=p.2:=by
 intro l;induction l with
 |nil=>intro pc h q hq;simp only[Cg,bC]at h;subst h;simp at hq
 |cons p l ih=>
  intro pc h q hq;obtain⟨i,x⟩:=p;simp only[Cg]at h;split at h
  .split at h
   .simp only[bC]at h;subst h;rcases dm.1 hq with rfl|hq
    .exact⟨(i,x),s7,rfl⟩
    grind
   .cases h
  .cases h
def Ry(x:az aB)(h:∀y,x=some y->ρ y=ρ' y):jK ρ x=jK ρ' x:=by
 cases x with
 |none=>rfl
 |some y=>simp[jK,h y rfl]
def Gg{o:Oper}(hc:cop P o=some c)(hρ:∀x∈o.op.operands,ρ x=ρ' x)(h:IH):c.run P ρ h=c.run P ρ' h/\c.alloc ρ=c.alloc ρ':=by
 obtain⟨dst,op,type,pos,after,guard⟩:=o;cases op
 case build t ps=>
  have hp:∀p∈ps.toList,ρ p.2=ρ' p.2:=λp hp=>hρ p.2 xb;simp only[cop]at hc;split at hc
  .rename_i fs z _ _;split at hc
   .rename_i pc hpc;simp only[bC]at hc;subst hc;refine⟨?_,rfl⟩;simp only[aR.run];unfold placesOf at hpc;split at hpc
    .have hq2:∀q∈pc,ρ q.2.2=ρ' q.2.2:=λq hq=>by
      obtain⟨p,h1,h2⟩:=agp _ _ hpc q hq;have:=hp p h1;rw[<- h2]at this;exact this
     rw[Rw pc z hq2]
    .cases hpc
   .cases hc
  .split at hc
   .rename_i s _;simp only[bC]at hc;subst hc;refine⟨?_,rfl⟩;simp only[aR.run];rw[Rw _ _ λq hq=>by obtain⟨p,h1,rfl⟩:=cO.1 hq;exact hp p h1]
   .cases hc
  .cases hc
 case buildSlice t n ps=>
  have hp:∀p∈ps.toList,ρ p.2=ρ' p.2:=λp hp=>hρ p.2 xb;simp only[cop]at hc;split at hc
  .split at hc
   .split at hc
    .simp only[bC]at hc;subst hc;simp only[aR.run,aR.alloc];rw[Rw _ _ λq hq=>by obtain⟨p,h1,rfl⟩:=cO.1 hq;exact hp p h1];exact⟨rfl,rfl⟩
    .cases hc
   .cases hc
  .cases hc
 case makeFunc fn first captured=>
  simp only[cop]at hc;split at hc
  .simp only[bC]at hc;subst hc;refine⟨?_,rfl⟩;simp only[aR.run];rw[Rx first.toList λx hx=>hρ x (by simp only[Op.operands,IQ];exact .inl xf),Rx captured.toList λx hx=>hρ x (by simp only[Op.operands,IQ];exact .inr xf)]
  .cases hc
 case slice t x lo hi mx=>
  have h0:ρ x=ρ' x:=hρ x td;have h1:=Ry (ρ:=ρ) (ρ':=ρ') lo λy hy=>hρ y tW;have h2:=Ry (ρ:=ρ) (ρ':=ρ') hi λy hy=>hρ y tW;have h3:=Ry (ρ:=ρ) (ρ':=ρ') mx λy hy=>hρ y tW;simp only[cop]at hc;split at hc
  .simp only[bC]at hc;subst hc;simp only[aR.run,aR.alloc,h0,h1,h2,h3,and_self]
  .exact nv
  .exact nv
  .cases hc
 case call cl=>
  obtain⟨callee,args,ats⟩:=cl;cases callee with
  |value f=>simp only[cop,bC]at hc;subst hc;exact⟨rfl,rfl⟩
  |invoke x n=>simp only[cop,bC]at hc;subst hc;exact⟨rfl,rfl⟩
  |builtin b=>
   have hargs:∀x∈args.toList,ρ x=ρ' x:=λx hx=>hρ x (by simp only[Op.operands,Call.operands,IQ];exact .inr xf);have hl:=Rx args.toList hargs;simp only[cop]at hc;repeat' split at hc
   all_goals first
    |contradiction
    |(cases hc;done)
    |skip
   all_goals first
    |(simp only[bC]at hc;subst hc)
    |(simp only[lT]at hc;obtain⟨_,_,rfl⟩:=hc)
   all_goals first
    |exact⟨rfl,rfl⟩
    |(simp only[aR.run,aR.alloc,hl,and_self];done)
    |(simp only[*,dm,IR,or_false,forall_eq_or_imp,forall_eq]at hargs
      simp only[aR.run,aR.alloc,hargs,and_self])
 all_goals
  simp only[cop]at hc;repeat' split at hc
  all_goals first
   |contradiction
   |(cases hc;done)
   |skip
 all_goals first
  |(simp only[bC]at hc;subst hc)
  |(simp only[lT]at hc;obtain⟨_,_,rfl⟩:=hc)
  |(simp only[reduceCtorEq]at hc;done)
 all_goals (simp[Op.operands]at hρ;simp only[aR.run,aR.alloc,hρ,and_self])
end Go.Ideal
namespace Go.Ideal
variable {P:Program}
variable{β:aQ}{h:IH}{w:World}
def WR.hide(hW:WR P β h w)(ob:fw):WR P β (h.new ob) w/\Eff β h w β (h.new ob) w:=by
 have hget:∀i,i<h.next->(h.new ob).get i=h.get i:=λi hi=>by rw[IH.jD,if_neg s6]
 refine⟨⟨?_,?_,?_,?_⟩,⟨λ_ _=>rfl,?_,?_,?_,bG _,?_,rfl,rfl,rfl,bG _,λ_ _ _=>rfl,?_,(by grind),bG _⟩⟩
 .intro i g hi;have:=hW.dom i g hi;show i<h.next+1;omega
 .intro i o hi;show i<h.next+1
  rw[IH.jD]at hi;split at hi
  .omega
  .have:=hW.live i o hi;omega
 .intro i g o hi ho;rw[hget i (hW.dom i g hi)]at ho;exact hW.obj i g o hi ho
 .intro i j g k hi hj h1 h2 hr he;rw[hget i (hW.dom i g hi)]at h1;rw[hget j (hW.dom j k hj)]at h2;exact hW.inj i j g k hi hj h1 h2 (hr.imp (λq cs e=>q cs (by rw[hget i (hW.dom i g hi)];exact e)) (λq cs e=>q cs (by rw[hget j (hW.dom j k hj)];exact e))) he
 .show h.next<=h.next+1;omega
 .grind
 .grind
 .grind
 .intro i g hg hi;exact absurd (hW.dom i g hg) s6
def WR.Rz(hW:WR P β h w){id:Nat}(hb:β id=none)(hlt:id<h.next){ob:fw}(hg:h.get id=some ob){o':Obj}{g:jk}(hgb:g.b=w.heap.size)
 (ho:OR P (β.add id g) g {w with heap:=w.heap.push o'} ob):WR P (β.add id g) h {w with heap:=w.heap.push o'}:=by
 have hle:=aQ.xZ g hb;have hold:=λj k hk hj=>by
  cases hx:h.get j with
  |none=>exact absurd hx hj
  |some o=>exact(hW.obj j k o hk hx).lt
 refine⟨?_,hW.live,?_,?_⟩
 .intro j k hk;by_cases e:j=id
  .subst e;exact hlt
  .rw[aQ.nK _ _ e]at hk;exact hW.dom j k hk
 .intro j k o hk hx;by_cases e:j=id
  .subst e;rw[aQ.mE]at hk;grind
  .rw[aQ.nK _ _ e]at hk;exact((hW.obj j k o hk hx).mono hle).congr (by grind)
 .intro j l k m hk hm hj hl hr he;by_cases ej:j=id
  .by_cases el:l=id
   .omega
   .subst ej;rw[aQ.mE]at hk;rw[aQ.nK _ _ el]at hm
    grind
  .rw[aQ.nK _ _ ej]at hk;by_cases el:l=id
   .subst el;rw[aQ.mE]at hm;grind
   .rw[aQ.nK _ _ el]at hm;exact hW.inj _ _ _ _ hk hm hj hl hr he
section
variable (P) (ops:Array Oper) (cZ:Nat->Nat->Bool) (hv:Nat->Bool)
structure yf(done:List Nat)(i:Nat):Prop where
 lt:i<ops.size
 new:i∉done
 pre:∀j,cZ i j=true->j∈done
 heavy:hv i=true->(∀j∈done,hv j=true->cZ i j=true)/\∀j,j<ops.size->hv j=false->j∉done->∃k,cZ j k=true/\k∉done
 own:hv i=false->∀o d,ops[i]? =some o->o.dst=some d->d∉looks ops o
 put:∀o d,ops[i]? =some o->o.dst=some d->∀j∈done,∀p,ops[j]? =some p->(d∈looks ops p\/p.dst=some d)->hv i=true/\cZ i j=true
 look:∀o,ops[i]? =some o->∀j∈done,∀p,ops[j]? =some p->∀d,p.dst=some d->d∈looks ops o->cZ i j=true
def Jz:ae Nat->Prop
 |[]=>True
 |i::d=>yf ops cZ hv d i/\Jz d
def Cs:ae Nat->ae Nat->ae bV->Prop
 |[],done,l=>l=[]/\∀i,i<ops.size->i∈done
 |i::rest,done,l=>yf ops cZ hv done i/\∃s re r,l=⟨s,re⟩::r/\mY P ops i=some s/\(hv i=false->heavy s.op=false)/\
   (hv i=true->∀j∈done,hv j=false->cZ i j=false->∀t,mY P ops j=some t->FW t.op=true->t∈re)/\Cs rest (i::done) r
def zq:ae Nat->ae Nat->Prop
 |S,[]=>∀i,i<ops.size->i∉S->∃j,cZ i j=true/\j∉S
 |S,i::r=>i<ops.size/\i∉S/\(∀j,cZ i j=true->j∈S)/\zq (i::S) r
def agq:∀(rest D:ae Nat) (l:ae bV),Cs P ops cZ hv rest D l->∀y∈D,hv y=true->∀x,x<ops.size->x∉D->hv x=true->cZ x y=true:=by
 intro rest;induction rest with
 |nil=>intro D l hp y _ _ x hx hxd _;exact absurd (hp.2 x hx) hxd
 |cons i rest ih=>
  intro D l hp y hy hvy x hx hxd wZ;obtain⟨h1,s,re,r,_,_,_,_,h2⟩:=hp;by_cases e:x=i
  .subst e;exact(h1.heavy wZ).1 y hy hvy
  grind
def X0:∀(done S:ae Nat),Jz ops cZ hv done->(∃x∈done,x∉S)->∃x∈done,x∉S/\∀j,cZ x j=true->j∈S:=by
 intro done;induction done with
 |nil=>grind
 |cons i d ih=>
  intro S hd h;obtain⟨h1,h2⟩:=hd;by_cases hp:∃x∈d,x∉S
  .obtain⟨x,a,b,c⟩:=ih S h2 hp
   grind
  .have hall:∀x∈d,x∈S:=(by grind)
   obtain⟨x,hx,hxs⟩:=h;rcases dm.1 hx with rfl|hx
   .exact⟨x,s7,hxs,λj hj=>hall j (h1.pre j hj)⟩
   grind
end
section
variable (P) (ops:Array Oper) (hv:Nat->Bool)
inductive X3(β:aQ)(lo:Nat)(a:bE)(h:IH)(al:Nat->Nat)(i:Nat):Prop
 |skip (o:Oper) (s:jh) (ho:ops[i]? =some o) (hs:mY P ops i=some s) (hl:heavy s.op=false) (hw:a.wants s.guard=some false) (hd:∀d,s.dst=some d->dZ a.tmps d=xR\/a.n<=d)
 |nL (o:Oper) (s:jh) (ho:ops[i]? =some o) (hs:mY P ops i=some s) (hl:heavy s.op=false) (hw:a.wants s.guard=some true) (hm:s.op.makes=false) (u:Value) (hr:s.op.run P a.eval h=some (u,h))
   (hd:∀d,s.dst=some d->dZ a.tmps d=u\/a.n<=d)
 |make (o:Oper) (s:jh) (ho:ops[i]? =some o) (hs:mY P ops i=some s) (hl:heavy s.op=false) (hw:a.wants s.guard=some true) (hm:s.op.makes=true) (f:Nat->Value) (ob:fw) (hr:s.op.alloc a.eval=some (f,ob))
   (hlo:lo<=al i) (hlt:al i<h.next) (hb:β (al i)=none) (hg:h.get (al i)=some ob) (hd:∀d,s.dst=some d->dZ a.tmps d=f (al i)\/a.n<=d)
def waits(done S:ae Nat)(t:Nat):Prop:=∃i o,i∈done/\i∉S/\ops[i]? =some o/\o.dst=some t
structure Inv(cZ:Nat->Nat->Bool)(β0:aQ)(h0:IH)(w0:World)(done S:List Nat)(β:aQ)(a:bE)(h:IH)(w:World)(tm:Array Value)(df:List Deferred):Prop where
 xe:Jz ops cZ hv done
 sub:∀i∈S,i∈done
 JA:∀i∈done,hv i=true->i∈S
 pend:∃al:Nat->Nat,(∀i∈done,i∉S->X3 P ops β h0.next a h al i)/\∀i j,i∈done->j∈done->i∉S->j∉S->i≠j->(∃s,mY P ops i=some s/\s.op.makes=true/\a.wants s.guard=some true)->(∃s,mY P ops j=some s/\s.op.makes=true/\a.wants s.guard=some true)->al i≠al j
 act:AR β (waits ops done S) a tm df
 wr:WR P β h w
 xg:Eff β0 h0 w0 β h w
end
variable{ops:Array Oper}{s:jh}
def qQ{i:Nat}(h:mY P ops i=some s):∃o,ops[i]? =some o/\cop P o=some s.op/\s.dst=o.dst/\(∀x∈o.op.operands,FV P x=true)/\
 ((o.guard=none/\s.guard=none)\/∃j want t,o.guard=some (j,want)/\(ops[j]?).bind (·.dst)=some t/\s.guard=some (t,want)):=by
 unfold mY at h;cases ho:ops[i]? with
 |none=>rw[ho]at h;cases h
 |some o=>
  refine⟨o,rfl,?_⟩;unfold I7 at h
  grind
variable{o:Oper}
def JB{t:Nat}(h:(∃x∈o.op.operands,x=.tmp t)\/∃j want,o.guard=some (j,want)/\(ops[j]?).bind (·.dst)=some t):t∈looks ops o:=by
 unfold looks;rcases h with⟨x,hx,rfl⟩|⟨j,want,h1,h2⟩
 .exact ul _ (IU.2 ⟨.tmp t,by simpa using hx,rfl⟩)
 grind
def MW{X:Nat->Prop}{a:bE}{tm:Array ah}{df:ae Deferred}(hg:(o.guard=none/\s.guard=none)\/∃j want t,o.guard=some (j,want)/\(ops[j]?).bind (·.dst)=some t/\s.guard=some (t,want))
 (k:AR β X a tm df) (hx:∀t,t∈looks ops o->¬X t) {r:Bool} (hw:a.wants s.guard=some r):Region.wanted o (yielded ops tm)=r:=by
 rcases hg with⟨h1,h2⟩|⟨j,want,t,h1,h2,h3⟩
 .rw[h2]at hw;simp only[bE.wants,bC]at hw;simp[Region.wanted,h1,<- hw]
 .rw[h3]at hw;have hv:=k.tmps t (hx t (JB (by grind)));simp only[bE.wants]at hw;have hy:Region.wanted o (yielded ops tm)=((match tm[t]? with|some (.bool b)=>some b|_=>none)==some want):=by
   simp only[Region.wanted,h1,yielded,h2];rfl
  split at hw
  .rename_i b hb;rw[hb]at hv;have hv':=hv.MK;rw[Ac]at hv';cases ht:tm[t]? with
   |none=>rw[ht]at hv';simp[undef]at hv'
   |some u=>
    grind
  .rename_i c hb;rw[hb]at hv;simp only[bC]at hw;generalize hz:tm.getD t undef=z at hv;cases hv;rw[Ac]at hz
   grind
  .cases hw
end Go.Ideal
namespace Go.Ideal
variable {P:Program} {ops:Array Oper} {cZ:Nat->Nat->Bool} {hv:Nat->Bool}
variable{β:aQ}
def jW.le{β':aQ}(h:β.le β')(k:jW P β):jW P β':=λg hg=>let⟨i,a,b⟩:=k g hg;⟨i,h _ _ a,b⟩
def Eff.Rz{β0:aQ}{h0 h:IH}{w0 w:World}(e:Eff β0 h0 w0 β h w){id:Nat}{g:jk}(hlo:h0.next<=id)(hgb:g.b=w.heap.size)(o':Obj):Eff β0 h0 w0 (β.add id g) h {w with heap:=w.heap.push o'} where
 agree i hi:=(aQ.nK _ _ s6).trans (e.agree i hi)
 next:=e.next
 alive:=e.alive
 hid:=e.hid
 low:=e.low
 kept:=e.kept
 os:=e.os
 tape:=e.tape
 output:=e.output
 drawn:=e.drawn
 size:=by have:=e.size;simp;omega
 keep b hb hno:=by
  rw[<- e.keep b hb hno];have:=e.size
  grind
 fresh i k hk hi:=by
  by_cases ei:i=id
  .subst ei;rw[aQ.mE]at hk;cases hk;left;rw[hgb];exact e.size
  .rw[aQ.nK _ _ ei]at hk;exact e.fresh i k hk hi
 vO i k hl hi hk hn hb:=by
  rw[<- e.vO i k hl hi hk hn hb];have:=e.size
  grind
def RA:∀{done:ae Nat},Jz ops cZ hv done->∀{x:Nat},x∈done->∃d,yf ops cZ hv d x:=by
 intro done;induction done with
 |nil=>grind
 |cons i d ih=>
  intro hd x hx;rcases dm.1 hx with rfl|hx
  .exact⟨d,hd.1⟩
  .exact ih hd.2 hx
def ags:∀{done:ae Nat},Jz ops cZ hv done->∀{x y:Nat},x∈done->y∈done->x≠y->(∃d,yf ops cZ hv d y/\x∈d)\/(∃d,yf ops cZ hv d x/\y∈d):=by
 intro done;induction done with
 |nil=>grind
 |cons i d ih=>
  intro hd x y hx hy hne;rcases dm.1 hx with e1|hx'
  .rcases dm.1 hy with e2|hy'
   .grind
   .subst e1;exact .inr ⟨d,hd.1,hy'⟩
  .rcases dm.1 hy with e2|hy'
   .subst e2;exact .inl ⟨d,hd.1,hx'⟩
   .exact ih hd.2 hx' hy' hne
section
variable {β0:aQ} {h0:IH} {w0:World} {done S:ae Nat} {β:aQ} {a:bE} {h:IH} {w:World} {tm:Array ah} {df:ae Deferred}
def Inv.RB(hI:Inv P ops hv cZ β0 h0 w0 done S β a h w tm df){x:Nat}(hx:x∈done)(hs:x∉S):hv x=false:=by
 cases hh:hv x with
 |false=>rfl
 |true=>exact absurd (hI.JA x hx hh) hs
def Inv.MX(hI:Inv P ops hv cZ β0 h0 w0 done S β a h w tm df){x:Nat}(hx:x∈done)(hs:x∉S)(hpre:∀j,cZ x j=true->j∈S){o:Oper}(ho:ops[x]? =some o){t:Nat}(ht:t∈looks ops o):¬waits ops done S t:=by
 rintro⟨y,p,hy,hys,hp,nM⟩;by_cases e:x=y
 .subst e;rw[ho]at hp;cases hp;obtain⟨d,hd⟩:=RA hI.xe hx;exact hd.own (hI.RB hx hs) o t ho nM ht
 .rcases ags hI.xe hx hy e with⟨d,hd,hxd⟩|⟨d,hd,Gh⟩
  .have:=(hd.put p t hp nM x hxd o ho (.inl ht)).1;rw[hI.RB hy hys]at this;cases this
  .exact hys (hpre y (hd.look o ho y Gh p hp t nM ht))
def Inv.RD(hI:Inv P ops hv cZ β0 h0 w0 done S β a h w tm df){x:Nat}(hx:x∈done)(hs:x∉S){o:Oper}(ho:ops[x]? =some o){β':aQ}(hle:β.le β'){u v':ah}(hd:∀d,o.dst=some d->dZ a.tmps d=u\/a.n<=d)(hv':VR β' u v'):
 AR β' (waits ops done (x::S)) a (sS tm o.dst v') df:=by
 have hA:=hI.act;refine⟨?_,λt ht=>?_,hA.out,hA.defers.mono hle⟩
 .rw[<- hA.size];unfold sS;split<;>simp
 .by_cases e:o.dst=some t
  .rw[e];show VR β' _ ((tm.setIfInBounds t v').getD t undef);by_cases hlt:t<tm.size
   .rw[MQ tm t v' t hlt,if_pos rfl];rcases hd t e with h1|h1
    .rw[h1];exact hv'
    .rw[hA.out t h1];exact .eY _
   .rw[hA.out t (by rw[<- hA.size];omega)];exact .eY _
  .have hnw:¬waits ops done S t:=by
    rintro⟨y,p,hy,hys,hp,nM⟩;refine ht ⟨y,p,hy,?_,hp,nM⟩
    grind
   have oL:=(hA.tmps t hnw).mono hle;cases hd2:o.dst with
   |none=>exact oL
   |some d=>
    show VR β' _ ((tm.setIfInBounds d v').getD t undef);have hne:d≠t:=(by grind)
    rw[Ac,aeN hne,<- Ac];exact oL
def Inv.take(hI:Inv P ops hv cZ β0 h0 w0 done S β a h w tm df)(hG:jW P β0)(hdom:∀i g,β0 i=some g->i<h0.next){x:Nat}(hx:x∈done)(hs:x∉S)(hpre:∀j,cZ x j=true->j∈S)(b:Frame)(k:ae Item)(cs:ae Frame)(rest:ae Nat):
 ∃β' w' tm',step P (lone (fr b tm df (.inRegion ops (x::rest)::k)) cs w)=.next (lone (fr b tm' df (.inRegion ops rest::k)) cs w')/\β.le β'/\Inv P ops hv cZ β0 h0 w0 done (x::S) β' a h w' tm' df:=by
 obtain⟨al,hp,hal⟩:=hI.pend;have hGβ:jW P β:=hG.le (hI.xg.le hdom);have RG:∀i∈done,hv i=true->i∈x::S:=λi hi hh=>fP _ (hI.JA i hi hh);have hsub:∀i∈x::S,i∈done:=λi hi=>by
  rcases dm.1 hi with rfl|hi
  .exact hx
  .exact hI.sub i hi
 have Gi:∀y,y∉x::S->y∉S/\y≠x:=(by grind)
 have X4:∀{o:Oper},ops[x]? =some o->∀y∈o.op.operands,∀t,y=.tmp t->¬waits ops done S t:=λho y hy t ht=>hI.MX hx hs hpre ho (JB (.inl ⟨y,hy,ht⟩));have keep:∀(β':aQ),(∀j,j∈done->j∉x::S->(∃s,mY P ops j=some s/\s.op.makes=true/\a.wants s.guard=some true)->β' (al j)=β (al j))->∀i∈done,i∉x::S->X3 P ops β' h0.next a h al i:=by
  intro β' hb i hi his;cases hp i hi (Gi i his).1 with
  |skip o s ho hs hl hw hd=>exact .skip o s ho hs hl hw hd
  |nL o s ho hs hl hw hm u hr hd=>exact .nL o s ho hs hl hw hm u hr hd
  |make o s ho hs hl hw hm f ob hr hlo hlt hbb hg hd=>exact .make o s ho hs hl hw hm f ob hr hlo hlt (by grind) hg hd
 have RH:=
  λi j hi hj his hjs=>hal i j hi hj (Gi i his).1 (Gi j hjs).1
 cases hp x hx hs with
 |skip o s ho hcs hl hw hd=>
  obtain⟨o',ho',iK,hdst,yg,hgd⟩:=qQ hcs;rw[ho]at ho';cases ho';have hwant:=MW hgd hI.act (λt ht=>hI.MX hx hs hpre ho ht) hw;refine⟨β,w,sS tm o.dst undef,?_,λ_ _ e=>e,hI.xe,hsub,RG,⟨al,(by grind),RH⟩,?_,hI.wr,hI.xg⟩
  .have:=XW (P:=P) (b:=b) (tm:=tm) (df:=df) (k:=k) (cs:=cs) (w:=w) (ops:=ops) (i:=x) (rest:=rest) (by simp[ho,hwant]);rw[this,ho];rfl
  .rw[hdst]at hd;exact hI.RD hx hs ho (λ_ _ e=>e) hd .skip
 |nL o s ho hcs hl hw hm u hr hd=>
  obtain⟨o',ho',iK,hdst,yg,hgd⟩:=qQ hcs;rw[ho]at ho';cases ho';have hwant:=MW hgd hI.act (λt ht=>hI.MX hx hs hpre ho ht) hw;obtain⟨r,w',β',v',g1,g2,g3,g4,g5⟩:=XU (ρ':=Act.eval ⟨tm,df⟩) iK (λy hy=>hI.act.eval hGβ (yg y hy) (X4 ho y hy)) hr hI.wr;have hnd:∀c,o.op≠.defer c:=by
   exact fb
  have hle:=g5.le hI.wr.dom;refine⟨β',w',sS tm o.dst v',MV ho hwant (.inr hnd) g1 g2,hle,hI.xe,hsub,RG,⟨al,keep β' λj hj hjs hjm=>?_,RH⟩,?_,g4,hI.xg.trans g5⟩
  .obtain⟨t,h1,h2,h3⟩:=hjm;cases hp j hj (Gi j hjs).1 with
   |skip o2 s2 _ hs2 _ hw2 _=>grind
   |nL o2 s2 _ hs2 _ _ hm2 _ _ _=>grind
   |make o2 s2 _ _ _ _ _ _ _ _ _ hlt _ _ _=>exact g5.agree _ hlt
  .rw[hdst]at hd;exact hI.RD hx hs ho hle hd g3
 |make o s ho hcs hl hw hm f ob hr hlo hlt hbn hget hd=>
  obtain⟨o',ho',iK,hdst,yg,hgd⟩:=qQ hcs;rw[ho]at ho';cases ho';have hwant:=MW hgd hI.act (λt ht=>hI.MX hx hs hpre ho ht) hw;obtain⟨v',o',g,m1,m2,m3⟩:=XT (ρ':=Act.eval ⟨tm,df⟩) (w:=w) hm iK (λy hy=>hI.act.eval hGβ (yg y hy) (X4 ho y hy)) hr;have hle:=aQ.xZ (β:=β) g hbn;obtain⟨m4,m5⟩:=m3 (al x) _ hle (aQ.mE _ _ _);have hnd:∀c,o.op≠.defer c:=by
   exact fb
  refine⟨β.add (al x) g,_,sS tm o.dst v',MV ho hwant (.inr hnd) m1 (.inl rfl),hle,hI.xe,hsub,RG,⟨al,keep _ λj hj hjs hjm=>?_,RH⟩,?_,hI.wr.Rz hbn hlt hget m2 m5,hI.xg.Rz hlo m2 o'⟩
  .exact aQ.nK _ _ (by grind)
  .rw[hdst]at hd;exact hI.RD hx hs ho hle hd m4
def Inv.flush(hG:jW P β0)(hdom:∀i g,β0 i=some g->i<h0.next){i:Nat}(hstep:yf ops cZ hv done i)(mF:hv i=true)(auI:∀x,x<ops.size->x∉done->x≠i->hv x=true->cZ x i=true)
 (b:Frame) (k:ae Item) (cs:ae Frame):∀(ρ S:ae Nat) (β:aQ) (w:World) (tm:Array ah),Inv P ops hv cZ β0 h0 w0 done S β a h w tm df->zq ops cZ S ρ->
 ∃S' β' w' tm' ρ',Steps P (lone (fr b tm df (.inRegion ops ρ::k)) cs w) (lone (fr b tm' df (.inRegion ops (i::ρ')::k)) cs w')/\β.le β'/\Inv P ops hv cZ β0 h0 w0 done S' β' a h w' tm' df/\zq ops cZ S' (i::ρ'):=by
 intro ρ;induction ρ with
 |nil=>
  intro S β w tm hI hR
  exfalso
  by_cases hp:∃x∈done,x∉S
  .obtain⟨x,h1,h2,h3⟩:=X0 ops cZ hv done S hI.xe hp;obtain⟨d,hd⟩:=RA hI.xe h1;obtain⟨j,h4,h5⟩:=hR x hd.lt h2;exact h5 (h3 j h4)
  .have hall:∀x∈done,x∈S:=(by grind)
   obtain⟨j,h4,h5⟩:=hR i hstep.lt λhc=>hstep.new (hI.sub i hc);exact h5 (hall j (hstep.pre j h4))
 |cons x ρ ih=>
  intro S β w tm hI hR;by_cases e:x=i
  .subst e;exact⟨S,β,w,tm,ρ,Steps.refl P _,λ_ _ e=>e,hI,hR⟩
  .obtain⟨r1,r2,r3,r4⟩:=hR;have hx:x∈done:=by
    refine Decidable.byContradiction λhn=>?_;cases hh:hv x with
    |false=>
     obtain⟨j,h1,h2⟩:=(hstep.heavy mF).2 x r1 hh hn;exact h2 (hI.sub j (r3 j h1))
    |true=>exact hstep.new (hI.sub i (by grind))
   obtain⟨β',w',tm',s1,s0,s2⟩:=hI.take hG hdom hx r2 r3 b k cs ρ;obtain⟨S',β'',w'',RI,ρ',t1,t0,t2,t3⟩:=ih _ _ _ _ s2 r4;exact⟨S',β'',w'',RI,ρ',.head s1 t1,λ_ _ e=>t0 _ _ (s0 _ _ e),t2,t3⟩
def Inv.finish(hG:jW P β0)(hdom:∀i g,β0 i=some g->i<h0.next)(hall:∀i,i<ops.size->i∈done)
 (b:Frame) (k:ae Item) (cs:ae Frame):∀(ρ S:ae Nat) (β:aQ) (w:World) (tm:Array ah),Inv P ops hv cZ β0 h0 w0 done S β a h w tm df->zq ops cZ S ρ->
 ∃β' w' tm',Steps P (lone (fr b tm df (.inRegion ops ρ::k)) cs w) (lone (fr b tm' df k) cs w')/\β.le β'/\AR β' none' a tm' df/\WR P β' h w'/\Eff β0 h0 w0 β' h w':=by
 intro ρ;induction ρ with
 |nil=>
  intro S β w tm hI hR;have hS:=λx hx=>Decidable.byContradiction λhn=>by
   obtain⟨y,h1,h2,h3⟩:=X0 ops cZ hv done S hI.xe ⟨x,hx,hn⟩;obtain⟨d,hd⟩:=RA hI.xe h1;obtain⟨j,h4,h5⟩:=hR y hd.lt h2;exact h5 (h3 j h4)
  refine⟨β,w,tm,.one agf,λ_ _ e=>e,⟨hI.act.size,λi _=>hI.act.tmps i ?_,hI.act.out,hI.act.defers⟩,hI.wr,hI.xg⟩;rintro⟨y,p,hy,hys,_⟩;exact hys (hS y hy)
 |cons x ρ ih=>
  intro S β w tm hI hR;obtain⟨r1,r2,r3,r4⟩:=hR;obtain⟨β',w',tm',s1,s0,s2⟩:=hI.take hG hdom (hall x r1) r2 r3 b k cs ρ;obtain⟨β'',w'',RI,t1,t0,t2⟩:=ih _ _ _ _ s2 r4;exact⟨β'',w'',RI,.head s1 t1,λ_ _ e=>t0 _ _ (s0 _ _ e),t2⟩
end
end Go.Ideal
namespace Go.Ideal
variable {P:Program} {ops:Array Oper} {cZ:Nat->Nat->Bool} {hv:Nat->Bool}
def xk(a:bE)(d:az Tmp)(v:ah)(t:Nat):dZ (a.put d v).tmps t=if d=some t/\t<a.n then v else dZ a.tmps t:=by
 cases d with
 |none=>simp[bE.put]
 |some d=>
  show dZ (a.set d v).tmps t=_;unfold bE.set;cases hb:Nat.blt d a.n with
  |true=>
   have hlt: @LT.lt Nat _ d a.n:=tI
   show dZ (a.tmps.set d (some v)) t=_;rw[F6]
   grind
  |false=>
   show dZ a.tmps t=_;rw[if_neg];rintro⟨h1,h2⟩;simp only[bC]at h1;subst h1;have:Nat.blt d a.n=true:=by simpa[wN]using h2
   grind
def sU(a:bE)(d:az Tmp)(v:ah):(a.put d v).n=a.n:=by
 cases d with
 |none=>rfl
 |some d=>show(a.set d v).n=_;unfold bE.set;grind
def put_defers(a:bE)(d:az Tmp)(v:ah):(a.put d v).defers=a.defers:=by
 cases d with
 |none=>rfl
 |some d=>show(a.set d v).defers=_;unfold bE.set;grind
def yj(a:bE)(d:az Tmp)(v:ah):(a.put d v).pm=a.pm:=by
 cases d with
 |none=>rfl
 |some d=>show(a.set d v).pm=_;unfold bE.set;grind
def ym(a:bE)(d:az Tmp)(v:ah):(a.put d v).ro=a.ro:=by
 cases d with
 |none=>rfl
 |some d=>show(a.set d v).ro=_;unfold bE.set;grind
def Gj{a a2:bE}{o:Oper}{s:jh}{i:Nat}(hi:ops[i]? =some o)(hs:mY P ops i=some s)(h:∀t,t∈looks ops o->dZ a2.tmps t=dZ a.tmps t):
 (∀x∈o.op.operands,a2.eval x=a.eval x)/\a2.wants s.guard=a.wants s.guard:=by
 obtain⟨o',ho',_,_,_,hg⟩:=qQ hs;rw[hi]at ho';refine⟨λx hx=>?_,?_⟩
 .cases x with
  |tmp t=>exact h t (JB (.inl ⟨_,hx,rfl⟩))
  |const v=>rfl
  |global g=>rfl
  |func f=>rfl
 .rcases hg with⟨_,h2⟩|⟨j,want,t,h1,h2,h3⟩
  .rw[h2];rfl
  .rw[h3];simp only[bE.wants,h t (JB (by grind))]
section
variable {β0:aQ} {h0:IH} {w0:World} {done S:ae Nat} {β:aQ} {a:bE} {h:IH} {w:World} {tm:Array ah} {df:ae Deferred}
def Inv.sync(hI:Inv P ops hv cZ β0 h0 w0 done S β a h w tm df){i:Nat}(hstep:yf ops cZ hv done i){o:Oper}(ho:ops[i]? =some o)(hpre:∀j,cZ i j=true->j∈S)
 {β2:aQ} {h2:IH} {w2:World} (heff:Eff β h w β2 h2 w2) (hwr:WR P β2 h2 w2) {v v':ah} (hvv:VR β2 v v') {a2:bE} (ha2:∀t,dZ a2.tmps t=dZ (a.put o.dst v).tmps t) (hn:a2.n=a.n) {df2:ae Deferred} (hdf:w9 β2 a2.defers df2)
 (hre:h2=h\/∀j∈done,j∉S->∀t,mY P ops j=some t->FW t.op=true->a2.wants t.guard≠some false->∃u h3,t.op.run P a2.eval h2=some (u,h3)/\∀d,t.dst=some d->dZ a2.tmps d=u):
 Inv P ops hv cZ β0 h0 w0 (i::done) (i::S) β2 a2 h2 w2 (sS tm o.dst v') df2:=by
 have hle:=heff.le hI.wr.dom;obtain⟨al,hp,hal⟩:=hI.pend;have Gi:∀y,y∈i::done->y∉i::S->y∈done/\y∉S/\y≠i:=(by grind)
 have free:∀j∈done,j∉S->∀p,ops[j]? =some p->(∀t∈looks ops p,o.dst≠some t)/\∀t,p.dst=some t->o.dst≠some t:=λj hj hjs p iD=>
  ⟨λt ht hd=>hjs (hpre j (hstep.put o t ho hd j hj p iD (.inl ht)).2),λt ht hd=>hjs (hpre j (hstep.put o t ho hd j hj p iD (.inr ht)).2)⟩
 have zu:∀t,o.dst≠some t->dZ a2.tmps t=dZ a.tmps t:=λt ht=>by rw[ha2,xk,if_neg (λhc=>ht hc.1)]
 have same:∀j∈done,j∉S->∀p s,ops[j]? =some p->mY P ops j=some s->(∀x∈p.op.operands,a2.eval x=a.eval x)/\a2.wants s.guard=a.wants s.guard:=λj hj hjs p s iD hsj=>
  Gj iD hsj (by grind)
 have JC:∀j∈done,j∉S->(∃s,mY P ops j=some s/\s.op.makes=true/\a2.wants s.guard=some true)->∃s,mY P ops j=some s/\s.op.makes=true/\a.wants s.guard=some true:=λj hj hjs ⟨s,q1,q2,q3⟩=>by
  obtain⟨p,iD,_⟩:=qQ q1
  grind
 refine⟨⟨hstep,hI.xe⟩,?_,?_,⟨al,?_,?_⟩,?_,hwr,hI.xg.trans heff⟩
 .intro x hx;rcases dm.1 hx with e|hx
  .simp[e]
  .exact fP _ (hI.sub x hx)
 .intro x hx hh;rcases dm.1 hx with e|hx
  .simp[e]
  .exact fP _ (hI.JA x hx hh)
 .intro j hj hjs;obtain⟨c1,c2,c3⟩:=Gi j hj hjs;cases hp j c1 c2 with
  |skip p s iD hs hl hw hd=>
   obtain⟨f1,f2⟩:=free j c1 c2 p iD;obtain⟨_,qR,_,hdst,_⟩:=qQ hs;rw[iD]at qR;cases qR;refine .skip p s iD hs hl (by grind) λd hdd=>?_
   grind
  |nL p s iD hs hl hw hm u hr hd=>
   obtain⟨f1,f2⟩:=free j c1 c2 p iD;obtain⟨_,qR,iK,hdst,_⟩:=qQ hs;rw[iD]at qR;cases qR;obtain⟨e1,e2⟩:=same j c1 c2 p s iD hs;have hcg:∀hh:IH,s.op.run P a2.eval hh=s.op.run P a.eval hh:=λhh=>(Gg iK e1 hh).1;cases hrd:FW s.op with
   |false=>
    have hr2:s.op.run P a2.eval h2=some (u,h2):=by rw[hcg];exact agn hl hm hrd hr h2
    refine .nL p s iD hs hl tM hm u hr2 λd hdd=>?_
    grind
   |true=>
    rcases hre with rfl|hre
    .refine .nL p s iD hs hl tM hm u (by rw[hcg];exact hr) λd hdd=>?_
     grind
    obtain⟨u2,h3,g1,g2⟩:=hre j c1 c2 s hs hrd (by rw[e2,hw];simp);have h3e:=XY hl hm g1;subst h3e;exact .nL p s iD hs hl tM hm u2 g1 (by grind)
  |make p s iD hs hl hw hm f ob hr hlo hlt hb hg hd=>
   obtain⟨f1,f2⟩:=free j c1 c2 p iD;obtain⟨_,qR,iK,hdst,_⟩:=qQ hs;rw[iD]at qR;cases qR;obtain⟨e1,e2⟩:=same j c1 c2 p s iD hs;have hb2:β2 (al j)=none:=by rw[heff.agree _ hlt];exact hb
   have hg2:h2.get (al j)=some ob:=by rw[heff.hid _ hlt hb];exact hg
   refine .make p s iD hs hl tM hm f ob (by rw[(Gg iK e1 h).2];exact hr) hlo (oZ hlt heff.next) hb2 hg2 λd hdd=>?_
   grind
 .intro x y hx hy hxs hys hne mx my
  grind
 .have hA:=hI.act;refine⟨?_,λt ht=>?_,λt ht=>?_,hdf⟩
  .rw[hn,<- hA.size];unfold sS;split<;>simp
  .have hnw:¬waits ops done S t:=by
    rintro⟨y,p,hy,hys,hp',nM⟩;refine ht ⟨y,p,(by grind),?_,hp',nM⟩
    grind
   have oL:=(hA.tmps t hnw).mono hle;rw[ha2,xk];cases hd2:o.dst with
   |none=>
    rw[if_neg s7];exact oL
   |some d=>
    show VR β2 _ ((tm.setIfInBounds d v').getD t undef);have hsz:=hA.size;by_cases hdt:d=t
    .subst hdt;by_cases hlt: @LT.lt Nat _ d a.n
     .rw[if_pos ⟨rfl,hlt⟩,MQ tm d v' d s6,if_pos rfl];exact hvv
     grind
    .rw[if_neg (by grind)];rw[Ac,aeN hdt,<- Ac];exact oL
  .rw[ha2,xk,if_neg (by grind)];exact hA.out t s6
def Inv.ahead(hI:Inv P ops hv cZ β0 h0 w0 done S β a h w tm df){i:Nat}(hstep:yf ops cZ hv done i)(hlt:hv i=false){o:Oper}{s:jh}(ho:ops[i]? =some o)(hs:mY P ops i=some s)(hl:heavy s.op=false)
 {v:ah} {h2:IH} (hcase:(a.wants s.guard=some false/\v=xR/\h2=h)\/(a.wants s.guard=some true/\s.op.run P a.eval h=some (v,h2))):
 Inv P ops hv cZ β0 h0 w0 (i::done) S β (a.put s.dst v) h2 w tm df:=by
 obtain⟨al,hp,hal⟩:=hI.pend;obtain⟨o',ho',iK,hdst,_,_⟩:=qQ hs;rw[ho]at ho';cases ho';have yo:i∉S:=λhc=>hstep.new (hI.sub i hc);have zu:∀t,o.dst≠some t->dZ (a.put s.dst v).tmps t=dZ a.tmps t:=λt ht=>by rw[xk,hdst,if_neg (λhc=>ht hc.1)]
 have free:∀j∈done,∀p,ops[j]? =some p->(∀t∈looks ops p,o.dst≠some t)/\∀t,p.dst=some t->o.dst≠some t:=λj hj p iD=>
  ⟨λt ht hd=>(by have:=(hstep.put o t ho hd j hj p iD (.inl ht)).1;rw[hlt]at this;cases this),λt ht hd=>(by have:=(hstep.put o t ho hd j hj p iD (.inr ht)).1;rw[hlt]at this;cases this)⟩
 have own:∀t∈looks ops o,o.dst≠some t:=λt ht hd=>hstep.own hlt o t ho hd ht;have RJ:∀d,s.dst=some d->dZ (a.put s.dst v).tmps d=v\/(a.put s.dst v).n<=d:=λd hd=>by
  rw[xk,sU,hd];by_cases hh: @LT.lt Nat _ d a.n
  .left;rw[if_pos ⟨rfl,hh⟩]
  .right;exact Nat.le_of_not_lt hh
 have hheap:(h2=h/\((a.wants s.guard=some true)->s.op.makes=false))\/(a.wants s.guard=some true/\s.op.makes=true/\∃f ob,s.op.alloc a.eval=some (f,ob)/\v=f h.next/\h2=h.new ob):=by
  rcases hcase with⟨q1,_,q3⟩|⟨q1,q2⟩
  .exact .inl ⟨q3,λhc=>by rw[q1]at hc;cases hc⟩
  .cases hm:s.op.makes with
   |false=>exact .inl ⟨XY hl hm q2,λ_=>rfl⟩
   |true=>
    rw[aR.XR hm]at q2;obtain⟨f,ob,e1,e2,e3⟩:=XQ q2;exact .inr ⟨q1,rfl,f,ob,e1,e2,e3⟩
 have hsub:∀x ob,h.get x=some ob->h2.get x=some ob:=λx ob hx=>by
  rcases hheap with⟨e,_⟩|⟨_,_,f,RN,_,_,e⟩
  .rw[e];exact hx
  .rw[e];exact agm hI.wr.live _ _ _ hx
 have hnext:h.next<=h2.next:=by
  rcases hheap with⟨e,_⟩|⟨_,_,f,RN,_,_,e⟩
  .rw[e];exact bG _
  .rw[e];exact FB _
 have X5:WR P β h2 w/\Eff β h w β h2 w:=by
  rcases hheap with⟨e,_⟩|⟨_,_,f,RN,_,_,e⟩
  .rw[e];exact⟨hI.wr,Eff.refl _ _ _ hI.wr.dom⟩
  .rw[e];exact hI.wr.hide RN
 have hne:∀j∈done,j≠i:=λj hj e=>hstep.new (e▸hj);have JC:∀j∈done,(∃s',mY P ops j=some s'/\s'.op.makes=true/\(a.put s.dst v).wants s'.guard=some true)->∃s',mY P ops j=some s'/\s'.op.makes=true/\a.wants s'.guard=some true:=λj hj ⟨s',q1,q2,q3⟩=>by
  obtain⟨p,iD,_⟩:=qQ q1;exact⟨s',q1,q2,by rw[<- (Gj iD q1 λt ht=>zu t ((free j hj p iD).1 t ht)).2];exact q3⟩
 have X6:∀j∈done,j∉S->(∃s',mY P ops j=some s'/\s'.op.makes=true/\a.wants s'.guard=some true)->al j<h.next:=λj hj hjs ⟨s',q1,q2,q3⟩=>by
  cases hp j hj hjs with
  |skip p s2 _ hs2 _ hw2 _=>rw[q1]at hs2;cases hs2;rw[q3]at hw2;cases hw2
  |nL p s2 _ hs2 _ _ hm2 _ _ _=>rw[q1]at hs2;cases hs2;rw[q2]at hm2;cases hm2
  |make p s2 _ _ _ _ _ _ _ _ _ hlt2 _ _ _=>exact hlt2
 refine⟨⟨hstep,hI.xe⟩,λx hx=>fP _ (hI.sub x hx),?_,⟨λj=>if j=i then h.next else al j,?_,?_⟩,?_,X5.1,hI.xg.trans X5.2⟩
 .intro x hx hh;rcases dm.1 hx with e|hx
  .subst e;rw[hlt]at hh;cases hh
  .exact hI.JA x hx hh
 .intro j hj hjs;rcases dm.1 hj with e|hj
  .subst e;obtain⟨e1,e2⟩:=Gj (a:=a) (a2:=a.put s.dst v) ho hs λt ht=>zu t (own t ht);rcases hheap with⟨e,hm⟩|⟨q1,q2,f,ob,q3,q4,q5⟩
   .rcases hcase with⟨q1,q2,q3⟩|⟨q1,q2⟩
    .refine .skip o s ho hs hl AD λd hd=>?_;rw[<- q2];exact RJ d hd
    .subst e;exact .nL o s ho hs hl AD (hm q1) v (by rw[(Gg iK e1 h2).1];exact q2) RJ
   .refine .make o s ho hs hl AD q2 f ob (by rw[(Gg iK e1 h2).2];exact q3) ?_ ?_ ?_ ?_ λd hd=>?_
    .rw[if_pos rfl];exact hI.xg.next
    .rw[if_pos rfl,q5];exact yY _
    .rw[if_pos rfl];exact hI.wr.zo
    .rw[if_pos rfl,q5,IH.jD,if_pos rfl]
    .rw[if_pos rfl,<- q4];exact RJ d hd
  .have hji:=hne j hj;cases hp j hj hjs with
   |skip p s2 iD hs2 hl2 hw hd=>
    obtain⟨f1,f2⟩:=free j hj p iD;obtain⟨_,qR,_,JD,_⟩:=qQ hs2;rw[iD]at qR;cases qR;obtain⟨e1,e2⟩:=Gj iD hs2 λt ht=>zu t (f1 t ht);refine .skip p s2 iD hs2 hl2 tM λd hdd=>?_;rw[zu d (f2 d AE),sU];exact hd d hdd
   |nL p s2 iD hs2 hl2 hw hm u hr hd=>
    obtain⟨f1,f2⟩:=free j hj p iD;obtain⟨_,qR,RO,JD,_⟩:=qQ hs2;rw[iD]at qR;cases qR;obtain⟨e1,e2⟩:=Gj iD hs2 λt ht=>zu t (f1 t ht);refine .nL p s2 iD hs2 hl2 tM hm u (by rw[(Gg RO e1 h2).1];exact agl hl2 hm hsub hr) λd hdd=>?_;rw[zu d (f2 d AE),sU];exact hd d hdd
   |make p s2 iD hs2 hl2 hw hm f ob hr hlo hlt2 hb hg hd=>
    obtain⟨f1,f2⟩:=free j hj p iD;obtain⟨_,qR,RO,JD,_⟩:=qQ hs2;rw[iD]at qR;cases qR;obtain⟨e1,e2⟩:=Gj iD hs2 λt ht=>zu t (f1 t ht);have JE:(if j=i then h.next else al j)=al j:=if_neg hji;refine .make p s2 iD hs2 hl2 tM hm f ob (by rw[(Gg RO e1 h2).2];exact hr) (by rw[JE];exact hlo) (by rw[JE];exact oZ hlt2 hnext) (by rw[JE];exact hb) (by rw[JE];exact hsub _ _ hg) λd hdd=>?_;rw[zu d (f2 d AE),sU,JE];exact hd d hdd
 .intro x y hx hy hxs hys hxy mx my;show(if x=i then h.next else al x)≠(if y=i then h.next else al y);rcases dm.1 hx with ex|hx
  .rcases dm.1 hy with ey|hy
   .exact absurd (ex.trans ey.symm) hxy
   .rw[if_pos ex,if_neg (hne y hy)];have:=X6 y hy hys (JC y hy my);omega
  .rcases dm.1 hy with ey|hy
   .rw[if_neg (hne x hx),if_pos ey];have:=X6 x hx hxs (JC x hx mx);omega
   .rw[if_neg (hne x hx),if_neg (hne y hy)];exact hal x y hx hy hxs hys hxy (JC x hx mx) (JC y hy my)
 .have hA:=hI.act;refine⟨by rw[sU];exact hA.size,λt ht=>?_,λt ht=>?_,by rw[put_defers];exact hA.defers⟩
  .have hdt:o.dst≠some t:=λhd=>ht ⟨i,o,s7,yo,ho,hd⟩;rw[zu t hdt];refine hA.tmps t ?_;rintro⟨y,p,hy,hys,hp',nM⟩;exact ht ⟨y,p,fP _ hy,hys,hp',nM⟩
  .rw[sU]at ht;rw[xk,if_neg (λhc=>by have:=hc.2;omega)];exact hA.out t ht
end
end Go.Ideal
namespace Go.Ideal
variable {P:Program}
def kindOf:az FrameMode->CallKind
 |none=>.normal
 |some _=>.deferred
structure CX(P:Program)(β:aQ)(pm:Option FrameMode)(ro:Option Nat)(b:Frame)(cs:List Frame):Prop where
 fn:∃f,P.funcs[b.fn]? =some f
 round:(ro=none/\b.roundOf=none)\/∃l g,ro=some l/\β l=some g/\b.roundOf=some g.b
 kind:b.kind=kindOf pm
 mode:∀m,pm=some m->∃c rest,cs=c::rest/\MR β m c.mode
inductive qx(β':aQ):Option FrameMode->Option FrameMode->List Frame->List Frame->Prop
 |none (cs:List Frame):qx β' none none cs cs
 |some (m m':FrameMode) (c:Frame) (rest:List Frame) (mr:FrameMode) (h:MR β' m' mr):qx β' (some m) (some m') (c::rest) ({c with mode:=mr}::rest)
variable{β β':aQ}
def qx.mono(h:β.le β'){p q:az FrameMode}{cs cs':ae Frame}(k:qx β p q cs cs'):qx β' p q cs cs':=by
 cases k with
 |none cs=>exact .none cs
 |some m m' c rest mr hm=>exact .some m m' c rest mr (hm.mono h)
variable{cs cs':ae Frame}
def qx.trans{p q r:az FrameMode}{cs'':ae Frame}(k:qx β p q cs cs')(k2:qx β' q r cs' cs''):qx β' p r cs cs'':=by
 cases k with
 |none cs=>exact k2
 |some m m' c rest mr hm=>
  cases k2 with
  |some _ m'' _ _ RP hm'=>exact .some m m'' c rest RP hm'
variable{b:Frame}
def CX.start{pm:az FrameMode}{ro:az Nat}(k:CX P β pm ro b cs):qx β pm pm cs cs:=by
 cases pm with
 |none=>exact .none cs
 |some m=>
  obtain⟨c,rest,rfl,hm⟩:=k.mode m rfl;have:=qx.some m m c rest c.mode hm;exact this
def CX.after(hle:β.le β'){pm pm':az FrameMode}{ro:az Nat}{b:Frame}{cs cs':ae Frame}(k:CX P β pm ro b cs)(hc:qx β' pm pm' cs cs'):CX P β' pm' ro b cs' where
 fn:=k.fn
 round:=by
  rcases k.round with h|⟨l,g,h1,h2,h3⟩
  .exact .inl h
  .exact .inr ⟨l,g,h1,hle _ _ h2,h3⟩
 kind:=by
  have:=k.kind;cases hc with
  |none=>exact this
  |some=>exact this
 mode m hm:=by
  cases hc with
  |none=>cases hm
  |some m0 m' c rest mr h=>grind
def MZ(P:Program)(M:Machine)(b:Frame)(k:ae Item)(β':aQ)(tm':Array ah)(iF:ae Deferred)(cs':ae Frame)(w':World):Out->Prop
 | .normal=>Steps P M (lone (fr b tm' iF k) cs' w')
 | .exit id=>∃todo,exitTo id todo=exitTo id k/\Steps P M (lone (fr b tm' iF (.code (.exit id)::todo)) cs' w')
 | .ret=>∃todo,Steps P M (lone (fr b tm' iF (.code .ret::todo)) cs' w')
 | .panic ch=>∃todo ch',qP β' ch ch'/\Steps P M (lone {fr b tm' iF todo with mode:=.panicking ch'} cs' w')
variable{M M':Machine}{k:ae Item}
def MZ.of_steps{tm':Array ah}{iF:ae Deferred}{w':World}{o:Out}(h:Steps P M M')(k2:MZ P M' b k β' tm' iF cs' w' o):MZ P M b k β' tm' iF cs' w' o:=by
 cases o with
 |normal=>exact h.trans k2
 |exit id=>obtain⟨todo,h1,h2⟩:=k2;exact⟨todo,h1,h.trans h2⟩
 |ret=>obtain⟨todo,h2⟩:=k2;exact⟨todo,h.trans h2⟩
 |panic ch=>obtain⟨todo,ch',h1,h2⟩:=k2;exact⟨todo,ch',h1,h.trans h2⟩
def Post(P:Program)(β0:aQ)(h0:IH)(w0:World)(lF:az FrameMode)(kE:az Nat)(b:Frame)(cs0:ae Frame)(k:ae Item)(K:KO)(M:Machine):Prop:=
 ∃o a' h' β' w' tm' iF cs',K o a' h'/\WR P β' h' w'/\Eff β0 h0 w0 β' h' w'/\AR β' none' a' tm' iF/\qx β' lF a'.pm cs0 cs'/\a'.ro=kE/\MZ P M b k β' tm' iF cs' w' o
def Post.of_steps{β0:aQ}{h0:IH}{w0:World}{lF:az FrameMode}{kE:az Nat}{cs0:ae Frame}{K:KO}(h:Steps P M M')(p:Post P β0 h0 w0 lF kE b cs0 k K M'):Post P β0 h0 w0 lF kE b cs0 k K M:=by
 obtain⟨o,a',h',β',w',tm',iF,cs',q1,q2,q3,q4,q5,q6,q7⟩:=p;exact⟨o,a',h',β',w',tm',iF,cs',q1,q2,q3,q4,q5,q6,.of_steps h q7⟩
def RQ(code:Code)(it:Item):Prop:=it=.code code\/∃body,code=.loop body/\it=.inLoop body
def nN(P:Program)(c:dD)(a:bE)(h:IH)(K:KO):Prop:=
 ∀code it,compile P code=c->RQ code it->∀β w b tm df k cs,jW P β->WR P β h w->AR β none' a tm df->CX P β a.pm a.ro b cs->
  Post P β h w a.pm a.ro b cs k K (lone (fr b tm df (it::k)) cs w)
def qy(P:Program)(ds:ae Tmp)(l:ae bV)(a:bE)(h:IH)(K:KO):Prop:=
 ∀ops cZ hv rest done S,Cs P ops cZ hv rest done l->(∀(i:Nat) o d,ops[i]? =some o->o.dst=some d->d∈ds)->
  ∀β0 h0 w0 lF kE cs0 β w b tm df k cs ρ,jW P β0->(∀i g,β0 i=some g->i<h0.next)->CX P β0 lF kE b cs0->Inv P ops hv cZ β0 h0 w0 done S β a h w tm df->zq ops cZ S ρ->
  qx β lF a.pm cs0 cs->a.ro=kE->Post P β0 h0 w0 lF kE b cs0 k K (lone (fr b tm df (.inRegion ops ρ::k)) cs w)
inductive RR(β:aQ):jL->Ending->Prop
 |ok {v v':Value} (h:VR β v v'):RR β (.ok v) (.returned v')
 |iy {ch ch':List PanicEntry} (h:qP β ch ch'):RR β (.iy ch) (.panicked ch')
def entry(P:Program)(k:CallKind):Next->az Frame
 | .enter f args=>some (Frame.enter P f args k)
 | .round l f tmps x y=>some (Frame.round l f tmps x y k)
 |_=>none
def recv(c:Frame):Ending->Frame
 | .returned v=>c.finish v
 | .panicked ch=>c.raise ch
 | .outgrown=>c
def ol(P:Program)(q:ji)(h:IH)(K:KR):Prop:=
 ∀β w fn' args' cap',jW P β->WR P β h w->FR β q.fn fn'->bB β q.args args'->bB β q.captured cap'->
  ∃nx F0,(invoke (.fn fn' ⟨cap'⟩) ⟨args'⟩).run P w=.ok nx w/\entry P (kindOf q.pm) nx=some F0/\
   ∀cs0,(∀m,q.pm=some m->∃c rest,cs0=c::rest/\MR β m c.mode)->∃r pm' h' β' w' r' cs1,K r pm' h'/\WR P β' h' w'/\Eff β h w β' h' w'/\RR β' r r'/\qx β' q.pm pm' cs0 cs1/\
    ((∃f args F1,nx=.enter f args/\Steps P (lone F0 cs0 w) (lone F1 cs1 w')/\F1.fn=f/\F1.kind=kindOf q.pm/\F1.going P w' r')\/
     ((q.pm=none/\∃l,q.fn=.yield l)/\∀c rest,cs1=c::rest->Steps P (lone F0 cs0 w) (lone (recv c r') rest w')))
def Aw(P:Program)(cf:iJ)(ts:T ah)(ds:ae Deferred)(m:FrameMode)(h:IH)(K:jL->IH->Prop):Prop:=
 ∀β w (F:Frame) cs fn,jW P β->WR P β h w->MR β m F.mode->w9 β ds F.defers->(∀i,VR β (dZ ts i) (F.tmps.getD i undef))->P.funcs[F.fn]? =some fn->xU P fn=some cf->
  ∃r h' β' w' F1 r',K r h'/\WR P β' h' w'/\Eff β h w β' h' w'/\RR β' r r'/\Steps P (lone F cs w) (lone F1 cs w')/\F1.kind=F.kind/\F1.fn=F.fn/\F1.going P w' r'
def ol.call{q:ji}{h:IH}{K:KR}(hM:ol P q h K)(hq:q.pm=none){β:aQ}{w:World}{fn':Fn}{args' cap':ae ah}(hG:jW P β)(hW:WR P β h w)(hf:FR β q.fn fn')(ha:bB β q.args args')(hc:bB β q.captured cap'):
 ∃nx F0,(invoke (.fn fn' ⟨cap'⟩) ⟨args'⟩).run P w=.ok nx w/\entry P .normal nx=some F0/\
  ∀c rest,∃r h' β' w' r',K r none h'/\WR P β' h' w'/\Eff β h w β' h' w'/\RR β' r r'/\Steps P (lone F0 (c::rest) w) (lone (recv c r') rest w'):=by
 obtain⟨nx,F0,h1,h2,h3⟩:=hM β w fn' args' cap' hG hW hf ha hc;rw[hq]at h2;refine⟨nx,F0,h1,h2,λc rest=>?_⟩;obtain⟨r,pm',h',β',w',r',cs1,q1,q2,q3,q4,q5,q6⟩:=h3 (c::rest) (by rw[hq];simp);rw[hq]at q5;cases q5;refine⟨r,h',β',w',r',q1,q2,q3,q4,?_⟩;rcases q6 with⟨f,args,F1,_,s1,s2,s3,s4⟩|⟨_,s1⟩
 .rw[hq]at s3;refine s1.trans (.one ?_);cases q4 with
  |ok hv=>
   obtain⟨t1,t2,fn,t3,t4⟩:=s4;exact step_leave_returned ⟨t1,t2,s3,fn,t3,t4⟩
  |iy hch=>
   obtain⟨t1,t2,fn,t3⟩:=s4;exact step_leave_panicked ⟨t1,t2,fn,t3⟩
 .exact s1 c rest rfl
section
variable {ds:ae Tmp} {a:bE} {h:IH} {K:KO}
def agu(hk:K .normal a h):qy P ds [] a h K:=by
 intro ops cZ hv rest done S hp hds β0 h0 w0 lF kE cs0 β w b tm df k cs ρ hG hdom hcx hI hR hcs hro;cases rest with
 |cons i rest=>obtain⟨_,s,re,r,hl,_⟩:=hp;cases hl
 |nil=>
  obtain⟨β',w',tm',s1,s0,s2,s3,s4⟩:=Inv.finish hG hdom hp.2 b k cs ρ S β w tm hI hR;exact⟨.normal,a,h,β',w',tm',df,cs,hk,s3,s4,s2,hcs.mono s0,hro,s1⟩
variable{s:bV}{l:ae bV}
def come{ops:Array Oper}{cZ:Nat->Nat->Bool}{hv:Nat->Bool}{i:Nat}{rest done S:ae Nat}(hp:Cs P ops cZ hv (i::rest) done (s::l))(mF:hv i=true)
 {β0:aQ} {h0:IH} {w0:World} (hG:jW P β0) (hdom:∀i g,β0 i=some g->i<h0.next) {β:aQ} {w:World} {tm:Array ah} {df:ae Deferred} (hI:Inv P ops hv cZ β0 h0 w0 done S β a h w tm df) {ρ:ae Nat} (hR:zq ops cZ S ρ) (b:Frame) (k:ae Item) (cs:ae Frame):
 ∃o S' β' w' tm' ρ',ops[i]? =some o/\cop P o=some s.s.op/\s.s.dst=o.dst/\Steps P (lone (fr b tm df (.inRegion ops ρ::k)) cs w) (lone (fr b tm' df (.inRegion ops (i::ρ')::k)) cs w')/\β.le β'/\Inv P ops hv cZ β0 h0 w0 done S' β' a h w' tm' df/\
  zq ops cZ (i::S') ρ'/\yf ops cZ hv done i/\Cs P ops cZ hv rest (i::done) l/\(∀j,cZ i j=true->j∈S')/\(∀r,a.wants s.s.guard=some r->Region.wanted o (yielded ops tm')=r)/\jW P β'/\(∀x∈o.op.operands,VR β' (a.eval x) (Act.eval ⟨tm',df⟩ x))/\
  (∀j∈done,j∉S'->∀t,mY P ops j=some t->FW t.op=true->t∈s.re):=by
 obtain⟨hstep,s1,re,r,hl,hcs,_,hre,om⟩:=hp;obtain⟨rfl,rfl⟩:=hl;obtain⟨o,ho,iK,hdst,yg,hgd⟩:=qQ hcs;obtain⟨S',β',w',tm',ρ',t1,t0,t2,t3⟩:=Inv.flush hG hdom hstep mF (λx hx hxd hxi wZ=>agq P ops cZ hv rest (i::done) l om i s7 mF x hx (by simp[hxd,hxi]) wZ) b k cs ρ S β w tm hI hR;obtain⟨r1,r2,r3,r4⟩:=t3;have X7:∀t,t∈looks ops o->¬waits ops done S' t:=by
  rintro t ht ⟨y,p,hy,hys,hp',nM⟩;exact hys (r3 y (hstep.look o ho y hy p hp' t nM ht))
 have hG':=hG.le (t2.xg.le hdom);refine⟨o,S',β',w',tm',ρ',ho,iK,hdst,t1,t0,t2,r4,hstep,om,r3,λr hr=>MW hgd t2.act X7 hr,hG',λx hx=>t2.act.eval hG' (yg x hx) λt ht=>X7 t (JB (.inl ⟨x,hx,ht⟩)),?_⟩;intro j hj hjs t ht hrd;have hb:cZ i j=false:=by
  grind
 exact hre mF j hj (t2.RB hj hjs) hb t ht hrd
def agv(hw:a.wants s.s.guard=some false)(ih:qy P ds l (a.put s.s.dst xR) h K):qy P ds (s::l) a h K:=by
 intro ops cZ hv rest done S hp hds β0 h0 w0 lF kE cs0 β w b tm df k cs ρ hG hdom hcx hI hR hcs hro;cases rest with
 |nil=>cases hp.1
 |cons i rest=>
  cases mF:hv i with
  |false=>
   obtain⟨hstep,s1,re,r,hl,hc1,hlt,_,om⟩:=hp;obtain⟨rfl,rfl⟩:=hl;obtain⟨o,ho,_⟩:=qQ hc1;have hI2:=hI.ahead hstep mF ho hc1 (hlt mF) (.inl ⟨hw,rfl,rfl⟩);exact iu
  |true=>
   obtain⟨o,S',β',w',tm',ρ',ho,iK,hdst,t1,t0,t2,r4,hstep,om,hpre,hwant,hG',vP,hrr⟩:=come hp mF hG hdom hI hR b k cs;have hs:=XW (P:=P) (b:=b) (tm:=tm') (df:=df) (k:=k) (cs:=cs) (w:=w') (ops:=ops) (i:=i) (rest:=ρ') (by simp[ho,hwant _ hw]);rw[ho]at hs;have hI2:=t2.sync hstep ho hpre (Eff.refl _ _ _ t2.wr.dom) t2.wr .skip (a2:=a.put s.s.dst xR) (λt=>by rw[hdst]) (sU _ _ _) xj (.inl rfl);exact gb
def agw(hw:a.wants s.s.guard=some true)(v:ah)(h':IH)(hr:s.s.op.run P a.eval h=some (v,h'))
 (hre:∀r∈s.re,(a.put s.s.dst v).wants r.guard≠some false->∃u h2,r.op.run P (a.put s.s.dst v).eval h'=some (u,h2)/\∀d,r.dst=some d->dZ (a.put s.s.dst v).tmps d=u)
 (ih:qy P ds l (a.put s.s.dst v) h' K):qy P ds (s::l) a h K:=by
 intro ops cZ hv rest done S hp hds β0 h0 w0 lF kE cs0 β w b tm df k cs ρ hG hdom hcx hI hR hcs hro;cases rest with
 |nil=>cases hp.1
 |cons i rest=>
  cases mF:hv i with
  |false=>
   obtain⟨hstep,s1,re,r,hl,hc1,hlt,_,om⟩:=hp;obtain⟨rfl,rfl⟩:=hl;obtain⟨o,ho,_⟩:=qQ hc1;have hI2:=hI.ahead hstep mF ho hc1 (hlt mF) (.inr ⟨hw,hr⟩);exact iu
  |true=>
   obtain⟨o,S',β',w',tm',ρ',ho,iK,hdst,t1,t0,t2,r4,hstep,om,hpre,hwant,hG',vP,hrr⟩:=come hp mF hG hdom hI hR b k cs;obtain⟨nx,w2,β2,v',g1,g2,g3,g4,g5⟩:=XU iK vP hr t2.wr;have hnd:∀c,o.op≠.defer c:=by
    intro cl hcl;obtain⟨dd,op,ty,ps,af,gd⟩:=o;subst hcl;obtain⟨callee,args,ats⟩:=cl;cases callee with
    |value f=>simp only[cop,bC]at iK;rw[<- iK]at hr;cases hr
    |invoke x n=>simp[cop]at iK
    |builtin bb=>simp[cop]at iK
   have hs:=MV (b:=b) (k:=k) (cs:=cs) (rest:=ρ') ho (hwant _ hw) (.inr hnd) g1 g2;have hle:=g5.le t2.wr.dom;have hI2:=t2.sync hstep ho hpre g5 g4 g3 (a2:=a.put s.s.dst v) (λt=>by rw[hdst]) (sU _ _ _) CC
    (by grind)
   exact .of_steps (t1.trans (.one hs)) (ih ops cZ hv rest (i::done) (i::S') om hds β0 h0 w0 lF kE cs0 β2 w2 b _ df k cs ρ' hG hdom hcx hI2 r4 CD ua)
end
end Go.Ideal
namespace Go.Ideal
section
variable (P:Program)
mutual
inductive EV:dD->bE->IH->KO->Prop
 |skip {a:bE} {h:IH} {K:KO} (hk:K .normal a h):EV .skip a h K
 |ops {ds:List Tmp} {l:List bV} {a:bE} {h:IH} {K:KO} (ho:aO ds l a h K):EV (.ops ds l) a h K
 |seq {x y:dD} {a:bE} {h:IH} {K:KO} (M:KO) (h1:EV x a h M) (h2:∀a' h',M .normal a' h'->EV y a' h' K)
   (h3:∀o a' h',M o a' h'->o≠.normal->K o a' h'):EV (.seq x y) a h K
 |RU {c:Operand} {x y:dD} {a:bE} {h:IH} {K:KO} (hc:a.eval c=.bool true) (h1:EV x a h K):EV (.cond c x y) a h K
 |RV {c:Operand} {x y:dD} {a:bE} {h:IH} {K:KO} (hc:a.eval c=.bool false) (h1:EV y a h K):EV (.cond c x y) a h K
 |block {id:Nat} {c:dD} {a:bE} {h:IH} {K:KO} (M:KO) (h1:EV c a h M) (h2:∀o a' h',M o a' h'->K (inBlock id o) a' h'):EV (.block id c) a h K
 |loop {c:dD} {a:bE} {h:IH} {K:KO} (M:KO) (h1:EV c a h M) (h2:∀a' h',M .normal a' h'->EV (.loop c) a' h' K)
   (h3:∀o a' h',M o a' h'->o≠.normal->K o a' h'):EV (.loop c) a h K
 |scope {c:dD} {a:bE} {h:IH} {K:KO} (h1:EV c a h K):EV (.scope c) a h K
 |exit {id:Nat} {a:bE} {h:IH} {K:KO} (hk:K (.exit id) a h):EV (.exit id) a h K
 |ret {a:bE} {h:IH} {K:KO} (hk:K .ret a h):EV .ret a h K
 |rangeFunc {f:Operand} {ps:List Tmp} {assign body:dD} {a:bE} {h:IH} {K:KO} (fn:Fn) (first captured:List Value)
   (hf:a.eval f=.func fn ⟨first⟩ ⟨captured⟩) (a1:bE) (h1:IH) (r:Nat)
   (hr:(a.ro=none/\a1={a with defers:={target:=.collected h.next,args:= #[]}::a.defers}/\h1=h.new (.jJ true)/\r=h.next)\/
     (∃l0 r0,a.ro=some l0/\a1=a/\h1=h/\h.get l0=some (.loop r0)/\r=r0.defers))
   (M:KR)
   (hc:CALL ⟨fn,mq first [.func (.yield h1.next) #[] #[]],captured,none⟩
     (h1.new (.loop {state:=.ready,pending:=none,tmps:=a.tmps,n:=a.n,params:=ps,assign,body,defers:=r})) M)
   (hok:∀v pm h2,M (.ok v) pm h2->∃lp,h2.get h1.next=some (.loop lp)/\lp.state≠.busy/\K (lp.pending.getD .normal) a1 (h2.set h1.next (.loop {lp with state:=.exhausted})))
   (jM:∀ch pm h2,M (.iy ch) pm h2->K (.panic ch) a1 h2):EV (.rangeFunc f ps assign body) a h K
 |weaken {c:dD} {a:bE} {h:IH} {K:KO} (a0:bE) (hw:∀i,dZ a0.tmps i=eY\/dZ a0.tmps i=dZ a.tmps i)
   (hn:a0.n=a.n/\a0.defers=a.defers/\a0.pm=a.pm/\a0.ro=a.ro) (h1:EV c a0 h K):EV c a h K
inductive aO:List Tmp->List bV->bE->IH->KO->Prop
 |nil {ds:List Tmp} {a:bE} {h:IH} {K:KO} (hk:K .normal a h):aO ds [] a h K
 |skip {ds:List Tmp} {s:bV} {l:List bV} {a:bE} {h:IH} {K:KO} (hw:a.wants s.s.guard=some false) (h1:aO ds l (a.put s.s.dst xR) h K):aO ds (s::l) a h K
 |nL {ds:List Tmp} {s:bV} {l:List bV} {a:bE} {h:IH} {K:KO} (hw:a.wants s.s.guard=some true) (v:Value) (h':IH) (hr:s.s.op.run P a.eval h=some (v,h'))
   (hs:∀r∈s.re,(a.put s.s.dst v).wants r.guard≠some false->∃u h2,r.op.run P (a.put s.s.dst v).eval h'=some (u,h2)/\∀d,r.dst=some d->dZ (a.put s.s.dst v).tmps d=u)
   (h1:aO ds l (a.put s.s.dst v) h' K):aO ds (s::l) a h K
 |call {ds:List Tmp} {s:bV} {l:List bV} {a:bE} {h:IH} {K:KO} (hw:a.wants s.s.guard=some true) (q:ji) (hq:Ao s.s.op a.eval=some q) (M:KR) (hc:CALL q h M)
   (hs:∀v pm h',M (.ok v) pm h'->∀r∈s.re,(a.put s.s.dst v).wants r.guard≠some false->∃u h2,r.op.run P (a.put s.s.dst v).eval h'=some (u,h2)/\∀d,r.dst=some d->dZ (a.put s.s.dst v).tmps d=u)
   (hok:∀v pm h',M (.ok v) pm h'->aO ds l (a.put s.s.dst v) h' K)
   (jM:∀ch pm h',M (.iy ch) pm h'->K (.panic ch) (forget ds a) h'):aO ds (s::l) a h K
 |X8 {ds:List Tmp} {s:bV} {l:List bV} {a:bE} {h:IH} {K:KO} (hw:a.wants s.s.guard=some true) (ho:s.s.op=.recover) (hre:s.re=[]) (hm:a.pm=none) (hro:a.ro=none)
   (h1:aO ds l (a.put s.s.dst .nilIface) h K):aO ds (s::l) a h K
 |recoverD {ds:List Tmp} {s:bV} {l:List bV} {a:bE} {h:IH} {K:KO} (hw:a.wants s.s.guard=some true) (ho:s.s.op=.recover) (hre:s.re=[]) (m:FrameMode) (hm:a.pm=some m) (hro:a.ro=none)
   (h1:aO ds l ({a with pm:=some (mZ m).2}.put s.s.dst (mZ m).1) h K):aO ds (s::l) a h K
 |panic {ds:List Tmp} {s:bV} {l:List bV} {a:bE} {h:IH} {K:KO} (hw:a.wants s.s.guard=some true) (x:Operand) (ho:s.s.op=.panic x) (t:TypeId) (v:Value) (hx:a.eval x=.iface t v)
   (hk:K (.panic [{v:=.iface t v,recovered:=false}]) (forget ds a) h):aO ds (s::l) a h K
 |defer {ds:List Tmp} {s:bV} {l:List bV} {a:bE} {h:IH} {K:KO} (hw:a.wants s.s.guard=some true) (f:Operand) (args:List Operand) (ho:s.s.op=.dcall f args) (hre:s.re=[]) (hro:a.ro=none)
   (fn:Fn) (first captured:List Value) (hf:a.eval f=.func fn ⟨first⟩ ⟨captured⟩)
   (h1:aO ds l ({a with defers:={target:=.fn fn ⟨captured⟩,args:=⟨mq first (o9 a.eval args)⟩}::a.defers}.put s.s.dst eY) h K):aO ds (s::l) a h K
 |next {ds:List Tmp} {s:bV} {l:List bV} {a:bE} {h:IH} {K:KO} (hw:a.wants s.s.guard=some true) (x:Operand) (ho:s.s.op=.Ai x) (hre:s.re=[]) (alts:List (Value×IH))
   (ha:Eb (a.eval x) h=some alts) (h1:∀vh∈alts,aO ds l (a.put s.s.dst vh.1) vh.2 K):aO ds (s::l) a h K
inductive LEAVE:iJ->T Value->List Deferred->FrameMode->IH->(jL->IH->Prop)->Prop
 |ret {cf:iJ} {ts:T Value} {h:IH} {K:jL->IH->Prop} (v:Value) (hv:uA cf.results ts h=some v) (hk:K (.ok v) h):LEAVE cf ts [] .returning h K
 |iy {cf:iJ} {ts:T Value} {h:IH} {K:jL->IH->Prop} (ch:List PanicEntry) (hk:K (.iy ch) h):LEAVE cf ts [] (.panicking ch) h K
 |coll {cf:iJ} {ts:T Value} {args:Array Value} {ds:List Deferred} {m:FrameMode} {h:IH} {K:jL->IH->Prop} (hm:m≠.run) (r:Nat) (hr:h.get r=some (.jJ true))
   (h1:LEAVE cf ts ds m (h.set r (.jJ false)) K):LEAVE cf ts ({target:=.collected r,args}::ds) m h K
 |call {cf:iJ} {ts:T Value} {fn:Fn} {captured args:List Value} {ds:List Deferred} {m:FrameMode} {h:IH} {K:jL->IH->Prop} (hm:m≠.run) (M:KR)
   (hc:CALL ⟨fn,args,captured,some m⟩ h M)
   (hpm:∀r pm h',M r pm h'->pm≠none)
   (hok:∀v m' h',M (.ok v) (some m') h'->LEAVE cf ts ds (Ci m') h' K)
   (jM:∀ch m' h',M (.iy ch) (some m') h'->LEAVE cf ts ds (FY m' ch) h' K):LEAVE cf ts ({target:=.fn fn ⟨captured⟩,args:=⟨args⟩}::ds) m h K
inductive CALL:ji->IH->KR->Prop
 |enter {q:ji} {h:IH} {K:KR} (f:FuncId) (args:List Value) (ht:target P q=some (f,args)) (fn:Func) (hf:P.funcs[f]? =some fn) (cf:iJ) (hcf:xU P fn=some cf)
   (M:KO) (h1:EV cf.body (Ea cf.ntmps args q.pm) h M)
   (h2:∀o a' h',M o a' h'->wW o≠none)
   (h3:∀o a' h' m,M o a' h'->wW o=some m->LEAVE cf a'.tmps a'.defers m h' λr h''=>K r a'.pm h''):CALL q h K
 |round {q:ji} {h:IH} {K:KR} (l:Nat) (hq:q.fn=.yield l) (hpm:q.pm=none) (r:nJ) (hr:h.get l=some (.loop r)) (hargs:q.args.length=r.params.length)
   (M:KO) (h1:EV r.assign {n:=r.n,tmps:=Cj r.n r.params q.args r.tmps,defers:=[],pm:=none,ro:=some l} h M)
   (h2:∀o a' h',M o a' h'->o=.normal/\∃r1,h'.get l=some (.loop r1)/\r1.state=.ready)
   (h3:∀a' h' r1,M .normal a' h'->h'.get l=some (.loop r1)->
     EV r.body a' (h'.set l (.loop {r1 with state:=.busy})) λo a'' h''=>∃r2,h''.get l=some (.loop r2)/\a''.defers=[]/\
      match o with
      | .panic ch=>K (.iy ch) none h''
      | .normal=>K (.ok (.bool true)) none (h''.set l (.loop {r2 with state:=.ready,pending:=none}))
      |o=>K (.ok (.bool false)) none (h''.set l (.loop {r2 with state:=.done,pending:=some o}))):CALL q h K
 |cut {q:ji} {h:IH} {K:KR} (cs:List Value) (n f:Nat) (hcs:iY cs=true) (hne:cs≠[]) (hf:f=0\/cs.length=n*f) (M:KR) (hc:CALL q {h with low:=h.next} M) (hq:q.pm=none)
   (h1:∀r pm h',M r pm h'->pm=none/\h'.low=h.next/\∃i o c,r=.ok (.slice (some ⟨i,o,some f⟩) n c)/\h.next<=i/\(f=0->c=n)/\h'.kL i o cs.length=some cs)
   (hk:K (.ok (.slice (some ⟨h.next,0,some f⟩) n n)) none (h.new (.cells cs))):CALL q h K
 |vQ {q:ji} {h:IH} {K:KR} (M:KR) (hc:CALL q h M) (hk:∀r pm h',M r pm h'->K r pm h'):CALL q h K
 |forget {q:ji} {h:IH} {K:KR} (M:KR) (hc:CALL q h M)
   (hk:∀r pm h',M r pm h'->∃h'',h''.next=h'.next/\h''.low=h'.low/\(∀i,h''.get i=h'.get i\/(h.next<=i/\h''.get i=none))/\K r pm h''):CALL q h K
 |memo {q:ji} {h:IH} {K:KR} (h0:IH) (v:Value) (hv:dQ v=true) (hq:q.pm=none) (hfn:rT h0.next (.func q.fn ⟨q.args⟩ ⟨q.captured⟩)=true)
   (hnext:h0.next<=h.next) (hgl:P.globals.size<=h0.next)
   (hsub:∀i o,h0.get i=some o->i<h0.next/\h.get i=some o/\MB h0.next o=true)
   (M:KR) (hc:CALL q h0 M) (h1:∀r pm h',M r pm h'->pm=none/\r=.ok v/\h'.low=h0.next)
   (hk:K (.ok v) none h):CALL q h K
 /-- a call that is known of the model itself -/
 |real {q:ji} {h:IH} {K:KR} (hm:ol P q h K):CALL q h K
end
end
end Go.Ideal
namespace Go.Ideal
variable {P:Program}
variable{o:Oper}{args:ae aB}{f:aB}
def agx(hc:cop P o=some (.call f args)):∃cl,o.op=.call cl/\cl.callee=.value f/\cl.args.toList=args:=by
 exact eN
variable{x:aB}
def agy{n:String}(hc:cop P o=some (.invoke x n args)):∃cl,o.op=.call cl/\cl.callee=.invoke x n/\cl.args.toList=args:=by
 obtain⟨dst,op,type,pos,after,guard⟩:=o;simp only[cop]at hc;repeat' split at hc
 all_goals first
  |contradiction
  |(cases hc;done)
  |(done)
  |(simp only[lT,reduceCtorEq,and_false,exists_false]at hc)
  |(obtain⟨rfl,rfl,rfl⟩:=hc
    exact⟨_,rfl,rfl,rfl⟩)
def agz(hc:cop P o=some .recover):∃cl,o.op=.call cl/\cl.callee=.builtin .recover:=by
 obtain⟨dst,op,type,pos,after,guard⟩:=o;simp only[cop]at hc;repeat' split at hc
 all_goals first
  |contradiction
  |(cases hc;done)
  |(done)
  |(simp only[lT,reduceCtorEq,and_false,exists_false]at hc;done)
  |exact⟨_,rfl,rfl⟩
def agA(hc:cop P o=some (.panic x)):o.op=.panic x\/∃cl,o.op=.call cl/\cl.callee=.builtin .panic/\cl.args.toList=[x]:=by
 obtain⟨dst,op,type,pos,after,guard⟩:=o;simp only[cop]at hc;repeat' split at hc
 all_goals first
  |contradiction
  |(cases hc;done)
  |(done)
  |(simp only[lT,reduceCtorEq,and_false,exists_false]at hc;done)
  |(simp only[bC,aR.panic.injEq]at hc;subst hc;exact .inl rfl)
  |(simp only[bC,aR.panic.injEq]at hc;subst hc;exact .inr ⟨_,rfl,rfl,by assumption⟩)
def agB(hc:cop P o=some (.dcall f args)):∃cl,o.op=.defer cl/\cl.callee=.value f/\cl.args.toList=args:=by
 exact eN
def agC(hc:cop P o=some (.Ai x)):o.op=.next x false:=by
 obtain⟨dst,op,type,pos,after,guard⟩:=o;simp only[cop]at hc;repeat' split at hc
 all_goals first
  |contradiction
  |(cases hc;done)
  |(done)
  |(simp only[lT,reduceCtorEq,and_false,exists_false]at hc;done)
  |(simp only[bC,aR.Ai.injEq]at hc;subst hc;rfl)
variable{c:aR}{q:ji}{β:aQ}{ρ:aB->ah}
def agD{ρ':aB->ah}(hc:cop P o=some c)(hq:Ao c ρ=some q)(hρ:∀x∈o.op.operands,VR β (ρ x) (ρ' x)):
 q.pm=none/\∃fn' args' cap',FR β q.fn fn'/\bB β q.args args'/\bB β q.captured cap'/\(∀w,(execOp ρ' o).run P w=(invoke (.fn fn' ⟨cap'⟩) ⟨args'⟩).run P w)/\∃cl,o.op=.call cl:=by
 unfold Ao at hq;split at hq
 .rename_i f args;obtain⟨cl,h1,h2,h3⟩:=agx hc;obtain⟨callee,nO,ats⟩:=cl;subst h2 h3;have hops:∀x∈(Op.call {callee:=.value f,args:=nO,argTypes:=ats}).operands,VR β (ρ x) (ρ' x):=by rw[<- h1];exact hρ
  have hf:=hops f AF;have ha:∀x∈nO.toList,VR β (ρ x) (ρ' x):=λx hx=>hops x AG;split at hq
  .rename_i fn first captured Ay
   simp only[bC]at hq;subst hq;rw[Ay]at hf;obtain⟨fn',f',c',k1,k2,k3,k4⟩:=hf.Cn;refine⟨rfl,fn',f'++nO.toList.map ρ',c',k1,?_,k3,λw=>?_,_,h1⟩
   .rw[kR];exact k2.append (bB.of_map ha)
   .obtain⟨dst,op,type,pos,after,guard⟩:=o;subst h1;have he:(⟨f'⟩:Array ah)++nO.map ρ'=⟨f'++nO.toList.map ρ'⟩:=by apply Array.ext';simp
    exact ri
  .cases hq
 .rename_i x name args;obtain⟨cl,h1,h2,h3⟩:=agy hc;obtain⟨callee,nO,ats⟩:=cl;subst h2 h3;have hops:∀y∈(Op.call {callee:=.invoke x name,args:=nO,argTypes:=ats}).operands,VR β (ρ y) (ρ' y):=by rw[<- h1];exact hρ
  have hx:=hops x AF;have ha:∀x∈nO.toList,VR β (ρ x) (ρ' x):=λx hx=>hops x AG;simp only[bC]at hq;subst hq;refine⟨rfl,.method name,ρ' x::nO.toList.map ρ',[],.method name,.cons hx (bB.of_map ha),.nil,λw=>?_,_,h1⟩;obtain⟨dst,op,type,pos,after,guard⟩:=o;subst h1;have he:(#[ρ' x]:Array ah)++nO.map ρ'=⟨ρ' x::nO.toList.map ρ'⟩:=uc
  simp only[execOp,resolve,dY,fZ,eZ,he]
 .cases hq
def agE(hq:Ao c ρ=some q):heavy c=true:=by
 unfold Ao at hq;split at hq
 .rfl
 .rfl
 .cases hq
def agF(d:Tmp)(ds:ae Tmp)(a:bE):forget (d::ds) a=forget ds (a.set d eY):=rfl
def RX(ds:ae Tmp):∀(a:bE),(∀i,a.n<=i->dZ a.tmps i=eY)->(forget ds a).n=a.n/\(forget ds a).defers=a.defers/\(forget ds a).pm=a.pm/\(forget ds a).ro=a.ro/\(∀i,a.n<=i->dZ (forget ds a).tmps i=eY)/\
 ∀t,dZ (forget ds a).tmps t=eY\/(t∉ds/\dZ (forget ds a).tmps t=dZ a.tmps t):=by
 induction ds with
 |nil=>intro a ho;exact⟨rfl,rfl,rfl,rfl,ho,λt=>.inr ⟨s7,rfl⟩⟩
 |cons d ds ih=>
  intro a ho;rw[agF];have hput:a.set d eY=a.put (some d) eY:=rfl;have ho2:∀i,(a.set d eY).n<=i->dZ (a.set d eY).tmps i=eY:=λi hi=>by
   rw[hput,sU]at hi;rw[hput,xk,if_neg (by grind)];exact ho i hi
  obtain⟨h1,h2,h3,h4,h5,h6⟩:=ih (a.set d eY) ho2;rw[hput,sU]at h1 h5;rw[hput,put_defers]at h2;rw[hput,yj]at h3;rw[hput,ym]at h4;refine⟨h1,h2,h3,h4,h5,λt=>?_⟩;rcases h6 t with e|⟨e1,e2⟩
  .exact .inl e
  .rw[hput,xk]at e2
   grind
def AR.forget{X:Nat->Prop}{a:bE}{tm:Array ah}{df:ae Deferred}(k:AR β X a tm df){ds:ae Tmp}(h:∀t,X t->t∈ds):AR β none' (Ideal.forget ds a) tm df:=by
 obtain⟨h1,h2,h3,h4,h5,h6⟩:=RX ds a k.out;refine⟨by rw[h1];exact k.size,λt _=>?_,by rw[h1];exact h5,by rw[h2];exact k.defers⟩;rcases h6 t with e|⟨e1,e2⟩
 .rw[e];exact .eY _
 .rw[e2];exact k.tmps t λhx=>e1 (h t hx)
section
variable {ds:ae Tmp} {a:bE} {h:IH} {K:KO}
variable{s:bV}{l:ae bV}
def Gl{ops:Array Oper}{cZ:Nat->Nat->Bool}{hv:Nat->Bool}{i:Nat}{rest done:ae Nat}(hp:Cs P ops cZ hv (i::rest) done (s::l))(hh:heavy s.s.op=true):hv i=true:=by
 obtain⟨_,s1,re,r,hl,_,hlt,_⟩:=hp
 grind
def agG(hw:a.wants s.s.guard=some true)(q:ji)(hq:Ao s.s.op a.eval=some q)(M:KR)(hc:ol P q h M)
 (hre:∀v pm h',M (.ok v) pm h'->∀r∈s.re,(a.put s.s.dst v).wants r.guard≠some false->∃u h2,r.op.run P (a.put s.s.dst v).eval h'=some (u,h2)/\∀d,r.dst=some d->dZ (a.put s.s.dst v).tmps d=u)
 (ih:∀v pm h',M (.ok v) pm h'->qy P ds l (a.put s.s.dst v) h' K)
 (jM:∀ch pm h',M (.iy ch) pm h'->K (.panic ch) (forget ds a) h'):qy P ds (s::l) a h K:=by
 intro ops cZ hv rest done S hp hds β0 h0 w0 lF kE cs0 β w b tm df k cs ρ hG hdom hcx hI hR hcs hro;cases rest with
 |nil=>cases hp.1
 |cons i rest=>
  have mF:=Gl hp (agE hq);obtain⟨o,S',β',w',tm',ρ',ho,iK,hdst,t1,t0,t2,r4,hstep,om,hpre,hwant,hG',vP,hrr⟩:=come hp mF hG hdom hI hR b k cs;obtain⟨agH,fn',args',cap',k1,k2,k3,k4,cl,k5⟩:=agD iK hq vP;have hnd:∀c,o.op≠.defer c:=by rw[k5];simp
  obtain⟨nx,F0,n1,n2,n3⟩:=hc.call agH hG' t2.wr k1 k2 k3;rw[<- k4]at n1;have henter:step P (lone (fr b tm' df (.inRegion ops (i::ρ')::k)) cs w')=.next (lone F0 (fr b tm' df (.inRegion ops (i::ρ')::k)::cs) w'):=by
   cases nx<;>simp only[entry,bC,reduceCtorEq]at n2
   .subst n2;exact agh ho (hwant _ hw) (.inr hnd) n1
   .subst n2;exact agi ho (hwant _ hw) (.inr hnd) n1
  obtain⟨r,h',β2,w2,r',q1,q2,q3,q4,q5⟩:=n3 (fr b tm' df (.inRegion ops (i::ρ')::k)) cs;have hle:=q3.le t2.wr.dom;cases q4 with
  | @ok v v' hvv=>
    have hfin:recv (fr b tm' df (.inRegion ops (i::ρ')::k)) (.returned v')=fr b (sS tm' o.dst v') df (.inRegion ops ρ'::k):=by
     have:=Jy (b:=b) (tm:=tm') (df:=df) (k:=k) (ops:=ops) (i:=i) (rest:=ρ') (v:=v');rw[ho]at this;exact this
    rw[hfin]at q5;have hI2:=t2.sync hstep ho hpre q3 q2 hvv (a2:=a.put s.s.dst v) (λt=>by rw[hdst]) (sU _ _ _) (df2:=df) CC
     (by grind)
    exact .of_steps (t1.trans (.head henter q5)) (ih v none h' q1 ops cZ hv rest (i::done) (i::S') om hds β0 h0 w0 lF kE cs0 β2 w2 b _ df k cs ρ' hG hdom hcx hI2 r4 CD ua)
  | @iy ch ch' hch=>
    have hx:∀t,waits ops done S' t->t∈ds:=by
     exact sn
    obtain⟨f1,f2,f3,f4,_,_⟩:=RX ds a t2.act.out;refine .of_steps (t1.trans (.head henter q5)) ⟨.panic ch,forget ds a,h',β2,w2,tm',df,cs,jM ch none h' q1,q2,t2.xg.trans q3,(t2.act.forget hx).mono hle,by rw[f3];exact(hcs.mono t0).mono hle,by rw[f4];exact hro,.inRegion ops (i::ρ')::k,ch',hch,?_⟩;exact Steps.refl P _
def agI(hw:a.wants s.s.guard=some true)(x:aB)(hop:s.s.op=.panic x)(t:aM)(v:ah)(hx:a.eval x=.iface t v)
 (hk:K (.panic [{v:=.iface t v,recovered:=false}]) (forget ds a) h):qy P ds (s::l) a h K:=by
 intro ops cZ hv rest done S hp hds β0 h0 w0 lF kE cs0 β w b tm df k cs ρ hG hdom hcx hI hR hcs hro;cases rest with
 |nil=>cases hp.1
 |cons i rest=>
  have mF:=Gl hp vA;obtain⟨o,S',β',w',tm',ρ',ho,iK,hdst,t1,t0,t2,r4,hstep,om,hpre,hwant,hG',vP,hrr⟩:=come hp mF hG hdom hI hR b k cs;rw[hop]at iK;have hrun:∃v',VR β' v v'/\(execOp (Act.eval ⟨tm',df⟩) o).run P w'=.halt (.panic (.iface t v')) w'/\∀c,o.op≠.defer c:=by
   rcases agA iK with h1|⟨cl,h1,h2,h3⟩
   .have hxv:=vP x (by rw[h1];simp[Op.operands]);rw[hx]at hxv;obtain⟨v',hv',he⟩:=hxv.Ei;refine⟨v',hv',?_,by rw[h1];simp⟩;obtain⟨dst,op,type,pos,after,guard⟩:=o;simp only at h1;subst h1;simp[execOp,he,Instr.panic]
   .obtain⟨callee,nO,ats⟩:=cl;simp only at h2 h3;subst h2
    have hxv:=vP x (by rw[h1];simp only[Op.operands,Call.operands,IQ];right;have:x∈nO.toList:=by rw[h3];simp
                       simpa using this)
    rw[hx]at hxv;obtain⟨v',hv',he⟩:=hxv.Ei;obtain rfl:nO= #[x]:=by grind
    refine⟨v',hv',?_,by rw[h1];simp⟩;obtain⟨dst,op,type,pos,after,guard⟩:=o;simp only at h1;subst h1;rw[Em];simp[builtin,he,Instr.panic]
  obtain⟨v',hv',hr,hnd⟩:=hrun;have hs:=agj (P:=P) (b:=b) (k:=k) (cs:=cs) (rest:=ρ') ho (hwant _ hw) (.inr hnd) hr;have sV:∀t,waits ops done S' t->t∈ds:=by
   exact sn
  obtain⟨f1,f2,f3,f4,_,_⟩:=RX ds a t2.act.out;exact .of_steps (t1.trans (.one hs)) ⟨_,forget ds a,h,β',w',tm',df,cs,hk,t2.wr,t2.xg,t2.act.forget sV,by rw[f3];exact hcs.mono t0,by rw[f4];exact hro,.inRegion ops (i::ρ')::k,[{v:=.iface t v',recovered:=false}],.cons (.iface t hv') rfl rfl .nil,Steps.refl P _⟩
def agJ(hw:a.wants s.s.guard=some true)(f:aB)(args:ae aB)(hop:s.s.op=.dcall f args)(hre:s.re=[])(X9:a.ro=none)
 (fn:Fn) (first captured:ae ah) (hf:a.eval f=.func fn ⟨first⟩ ⟨captured⟩)
 (ih:qy P ds l ({a with defers:={target:=.fn fn ⟨captured⟩,args:=⟨mq first (o9 a.eval args)⟩}::a.defers}.put s.s.dst eY) h K):qy P ds (s::l) a h K:=by
 intro ops cZ hv rest done S hp hds β0 h0 w0 lF kE cs0 β w b tm df k cs ρ hG hdom hcx hI hR hcs hro;cases rest with
 |nil=>cases hp.1
 |cons i rest=>
  have mF:=Gl hp vA;obtain⟨o,S',β',w',tm',ρ',ho,iK,hdst,t1,t0,t2,r4,hstep,om,hpre,hwant,hG',vP,hrr⟩:=come hp mF hG hdom hI hR b k cs;rw[hop]at iK;obtain⟨cl,h1,h2,h3⟩:=agB iK;obtain⟨callee,nO,ats⟩:=cl;subst h2 h3;have hops:∀x∈(Op.defer {callee:=.value f,args:=nO,argTypes:=ats}).operands,VR β' (a.eval x) (Act.eval ⟨tm',df⟩ x):=by rw[<- h1];exact vP
  have Ay:=hops f AF;have Eo:∀x∈nO.toList,VR β' (a.eval x) (Act.eval ⟨tm',df⟩ x):=λx hx=>hops x AG;rw[hf]at Ay;obtain⟨fn',f',c',k1,k2,k3,k4⟩:=Ay.Cn;have JF:b.roundOf=none:=by
   exact lj
  have hr:(execOp (Act.eval ⟨tm',df⟩) o).run P w'=.ok (.defer {target:=.fn fn' ⟨c'⟩,args:=⟨f'++nO.toList.map (Act.eval ⟨tm',df⟩)⟩}) w':=by
   obtain⟨dst,op,type,pos,after,guard⟩:=o;subst h1;have he:(⟨f'⟩:Array ah)++nO.map (Act.eval ⟨tm',df⟩)=⟨f'++nO.toList.map (Act.eval ⟨tm',df⟩)⟩:=uc
   exact ri
  have hs:=agk (P:=P) (b:=b) (k:=k) (cs:=cs) (rest:=ρ') ho (hwant _ hw) JF hr;have hI2:=t2.sync hstep ho hpre (Eff.refl _ _ _ t2.wr.dom) t2.wr (v:=eY) (v':=undef) (.eY _) (a2:=({a with defers:={target:=.fn fn ⟨captured⟩,args:=⟨mq first (o9 a.eval nO.toList)⟩}::a.defers}:bE).put s.s.dst eY)
   (λt=>by rw[xk,xk,hdst]) (sU _ _ _) (df2:={target:=.fn fn' ⟨c'⟩,args:=⟨f'++nO.toList.map (Act.eval ⟨tm',df⟩)⟩}::df) (by
     rw[put_defers];refine .fn k1 k3 ?_ t2.act.defers;rw[kR];exact k2.append (bB.of_map Eo)) (.inl rfl)
  exact .of_steps (t1.trans (.one hs)) (ih ops cZ hv rest (i::done) (i::S') om hds β0 h0 w0 lF kE cs0 β' w' b _ _ k cs ρ' hG hdom hcx hI2 r4 (by rw[yj];exact hcs.mono t0) ua)
def Ya{o:Oper}(hc:cop P o=some .recover)(ρ:aB->ah)(w:World):(execOp ρ o).run P w=.ok .recover w:=by
 obtain⟨cl,h1,h2⟩:=agz hc;obtain⟨callee,nO,ats⟩:=cl;subst h2;obtain⟨dst,op,type,pos,after,guard⟩:=o;subst h1;rfl
def agK(hw:a.wants s.s.guard=some true)(hop:s.s.op=.recover)(hre:s.re=[])(hm:a.pm=none)(X9:a.ro=none)(ih:qy P ds l (a.put s.s.dst .nilIface) h K):qy P ds (s::l) a h K:=by
 intro ops cZ hv rest done S hp hds β0 h0 w0 lF kE cs0 β w b tm df k cs ρ hG hdom hcx hI hR hcs hro;cases rest with
 |nil=>cases hp.1
 |cons i rest=>
  have mF:=Gl hp vA;obtain⟨o,S',β',w',tm',ρ',ho,iK,hdst,t1,t0,t2,r4,hstep,om,hpre,hwant,hG',vP,hrr⟩:=come hp mF hG hdom hI hR b k cs;rw[hop]at iK;have JF:b.roundOf=none:=by
   exact lj
  have hkind:b.kind=.normal:=by
   have h1:=hcx.kind;rw[hm]at hcs;cases hcs;exact h1
  have hs:=XX (k:=k) (cs:=cs) (rest:=ρ') ho (hwant _ hw) JF (Ya iK (Act.eval ⟨tm',df⟩) w');have htr:tryRecover (fr b tm' df (.inRegion ops (i::ρ')::k)) cs=none:=by
   have:(fr b tm' df (.inRegion ops (i::ρ')::k)).kind=.normal:=hkind;unfold tryRecover;rw[this]
  rw[htr]at hs;have hI2:=t2.sync hstep ho hpre (Eff.refl _ _ _ t2.wr.dom) t2.wr .nilIface (a2:=a.put s.s.dst .nilIface) (λt=>by rw[hdst]) (sU _ _ _) xj (.inl rfl);exact gb
def agL{β:aQ}{m:FrameMode}{c:Frame}(hm:MR β m c.mode)(rest:ae Frame):(∃v' mr,recoverD (c::rest)=some (v',{c with mode:=mr}::rest)/\VR β (mZ m).1 v'/\MR β (mZ m).2 mr)\/(recoverD (c::rest)=none/\(mZ m).1=.nilIface/\(mZ m).2=m):=by
 cases hcm:c.mode with
 |run=>rw[hcm]at hm;cases hm;simp[recoverD,hcm,mZ]
 |returning=>rw[hcm]at hm;cases hm;simp[recoverD,hcm,mZ]
 |panicking ch=>
  rw[hcm]at hm;cases hm with
  |panicking hp=>
   cases hp with
   |nil=>simp[recoverD,hcm,mZ]
   | @cons e e' l l' hv hr hg hl=>
     obtain⟨ev,er,eg⟩:=e';cases her:e.recovered with
     |true=>subst hr;simp[recoverD,hcm,mZ,her]
     |false=>
      cases M0:e.goexit with
      |true=>subst hg;simp[recoverD,hcm,mZ,M0]
      |false=>
       rw[her]at hr;rw[M0]at hg;subst hr hg;left;refine⟨ev,.panicking ({v:=ev,recovered:=true}::l'),by simp[recoverD,hcm],?_,?_⟩
       .simp only[mZ,her,M0,cond_false];exact hv
       .simp only[mZ,her,M0,cond_false];exact .panicking (.cons hv rfl rfl hl)
def agM(hw:a.wants s.s.guard=some true)(hop:s.s.op=.recover)(hre:s.re=[])(m:FrameMode)(hm:a.pm=some m)(X9:a.ro=none)
 (ih:qy P ds l ({a with pm:=some (mZ m).2}.put s.s.dst (mZ m).1) h K):qy P ds (s::l) a h K:=by
 intro ops cZ hv rest done S hp hds β0 h0 w0 lF kE cs0 β w b tm df k cs ρ hG hdom hcx hI hR hcs hro;cases rest with
 |nil=>cases hp.1
 |cons i rest=>
  have mF:=Gl hp vA;obtain⟨o,S',β',w',tm',ρ',ho,iK,hdst,t1,t0,t2,r4,hstep,om,hpre,hwant,hG',vP,hrr⟩:=come hp mF hG hdom hI hR b k cs;rw[hop]at iK;have JF:b.roundOf=none:=by
   exact lj
  have hcs2:=hcs.mono t0;rw[hm]at hcs2;have agN:=hcx.kind;cases hcs2 with
  |some m0 _ c0 Gm mr hmr=>
  have hkind:(fr b tm' df (.inRegion ops (i::ρ')::k)).kind=.deferred:=agN;have hs:=XX (P:=P) (b:=b) (k:=k) (cs:={c0 with mode:=mr}::Gm) (rest:=ρ') ho (hwant _ hw) JF (Ya iK (Act.eval ⟨tm',df⟩) w');rw[tryRecover_deferred hkind]at hs;have sync:=λv' hv'=>
   t2.sync hstep ho hpre (Eff.refl _ _ _ t2.wr.dom) t2.wr (v':=v') hv' (a2:=({a with pm:=some (mZ m).2}:bE).put s.s.dst (mZ m).1)
    (λt=>by rw[xk,xk,hdst]) (sU _ _ _) xj (.inl rfl)
  rcases agL (c:={c0 with mode:=mr}) hmr Gm with⟨v',RP,e1,e2,e3⟩|⟨e1,e2,e3⟩
  .rw[e1]at hs;exact .of_steps (t1.trans (.one hs)) (ih ops cZ hv rest (i::done) (i::S') om hds β0 h0 w0 (some m0) kE (c0::Gm) β' w' b _ df k _ ρ' hG hdom hcx (sync v' e2) r4 (by rw[yj];exact .some m0 _ c0 Gm RP e3) ua)
  .rw[e1]at hs;exact .of_steps (t1.trans (.one hs)) (ih ops cZ hv rest (i::done) (i::S') om hds β0 h0 w0 (some m0) kE (c0::Gm) β' w' b _ df k _ ρ' hG hdom hcx (sync .nilIface (by rw[e2];exact .nilIface)) r4 (by rw[yj,e3];exact .some m0 _ c0 Gm mr hmr) ua)
end
end Go.Ideal
namespace Go.Ideal
variable {P:Program}
variable{β:aQ}
def iC.filter(p:Nat->Bool){l l':ae MapEntry}(he:iC β l l'):iC β (l.filter λe=>p e.born) (l'.filter λe=>p e.born):=by
 induction he with
 |nil=>exact .nil
 | @cons e e' l l' hk hf hb hv hl ih=>
   simp only[FH,hb];split
   .exact .cons hk hf hb hv ih
   .exact ih
variable{l l':ae MapEntry}
def iC.mem(he:iC β l l'){e':MapEntry}(hm:e'∈l'):∃e∈l,e'.key=e.key/\dQ e.key=true/\e'.born=e.born/\VR β e.val e'.val:=by
 induction he with
 |nil=>simp at hm
 | @cons e e1 l l' hk hf hb hv hl ih=>
   grind
def iC.append{r r':ae MapEntry}(he:iC β l l')(h2:iC β r r'):iC β (l++r) (l'++r'):=by
 induction he with
 |nil=>exact h2
 |cons hk hf hb hv hl ih=>exact .cons hk hf hb hv ih
def iC.all(p:Nat->Bool){l l':ae MapEntry}(he:iC β l l'):(l'.all λe=>p e.born)=l.all λe=>p e.born:=by
 induction he with
 |nil=>rfl
 |cons hk hf hb hv hl ih=>grind
def iC.isEmpty(he:iC β l l'):l'.isEmpty=l.isEmpty:=by cases he<;>rfl
def agO(n:Nat)(hn:0<n)(w:World):∃k w1,(choose (.mapNext n)).run P w=.ok k w1/\k<n/\w1.heap=w.heap/\w1.os=w.os/\w1.tape=w.tape/\w1.output=w.output/\w.drawn<=w1.drawn:=by
 rw[run_choose];by_cases h:n<=1
 .exact⟨0,w,by simp[Question.forced,h],hn,rfl,rfl,rfl,rfl,bG _⟩
 .exact⟨(Question.mapNext n).cut (w.tape w.drawn (.mapNext n)),{w with drawn:=w.drawn+1},by rw[if_neg (by simp[Question.forced];omega)],BN _ hn,rfl,rfl,rfl,rfl,FB _⟩
variable{h:IH}
def agP{w:World}{v v':ah}{alts:ae (ah×IH)}(ha:Eb v h=some alts)(hv:VR β v v')(hW:WR P β h w)(ty:aM):
 ∃vh∈alts,∃r' w',(Instr.next v' false ty).run P w=.ok r' w'/\VR β vh.1 r'/\WR P β vh.2 w'/\Eff β h w β vh.2 w':=by
 unfold Eb at ha;split at ha
 .rename_i r;obtain⟨g,hb,hv'⟩:=hv.x9;split at ha
  .rename_i since seen last hg;simp only[bC]at ha;subst ha;obtain⟨m',seen',o1,o2,o3,o4⟩:=hW.obj r g _ hb hg;rw[o4]at hv';have hm':m'=none:=by cases o3;rfl
   subst hm';refine⟨_,bR.2 rfl,.tuple #[.bool false],w,?_,.tuple (.cons (.bool _) .nil),hW,Eff.refl _ _ _ hW.dom⟩;subst hv';simp only[Instr.next,FD,dY,Av o1 s7,eZ,fZ]
  .rename_i m since seen last hg;split at ha
   .rename_i es clock hgm;obtain⟨m',seen',o1,o2,o3,o4⟩:=hW.obj r g _ hb hg;rw[o4]at hv';obtain⟨gm,Gf,hm'⟩:∃gm,β m=some gm/\m'=some gm.b:=by
     obtain⟨gm,a,b⟩:=o3.Gd;exact⟨gm,a,by simpa using b⟩
    subst hm' hv';obtain⟨es',p1,p2⟩:=hW.obj m gm _ Gf hgm;cases hc:(!seen.isEmpty&&!es.isEmpty&&es.all (λe=>Nat.ble last e.born))with
    |true=>rw[hc]at ha;cases ha
    |false=>
    rw[hc]at ha;simp only[cond_false,bC]at ha;let left:=es.filter λe=>!seen.contains e.born
    let left':=es'.filter λe=>!seen'.contains e.born
    have hcont:∀n,seen'.contains n=seen.contains n:=λn=>by rw[<- o2];simp
    have hleft:iC β left left'.toList:=by
     have:=p2.filter (λn=>!seen.contains n);have h2:left'.toList=es'.toList.filter λe=>!seen.contains e.born:=by
      show(es'.filter λe=>!seen'.contains e.born).toList=_;rw[Array.toList_filter];simp only[hcont]
     rw[h2];exact this
    have hold:iC β (left.filter λe=>Nat.blt e.born since) (left'.filter (·.born<since)).toList:=by
     have:=hleft.filter (λn=>Nat.blt n since);rw[Array.toList_filter];have h2:(left'.toList.filter λe=>decide (e.born<since))=left'.toList.filter λe=>Nat.blt e.born since:=by
      congr 1;funext e;rw[wM];simp[wN]
     rw[h2];exact this
    have hnew:iC β (left.filter λe=>Nat.ble since e.born) (left'.filter (·.born>=since)).toList:=by
     have:=hleft.filter (λn=>Nat.ble since n);rw[Array.toList_filter];have h2:(left'.toList.filter λe=>decide (e.born>=since))=left'.toList.filter λe=>Nat.ble since e.born:=by
      congr 1;funext e;rw[wM];simp[vH]
     rw[h2];exact this
    let old:=left.filter λe=>Nat.blt e.born since
    let new:=left.filter λe=>Nat.ble since e.born
    let old':=left'.filter (·.born<since)
    let new':=left'.filter (·.born>=since)
    let Az:=(if old'.isEmpty then #[none]else #[])++(old'++new').map some
    have hold':iC β old old'.toList:=hold;have agQ:iC β new new'.toList:=hnew;have hoe:old'.isEmpty=old.isEmpty:=by
     have:=hold'.isEmpty;rw[<- this];cases old' with|mk l=>cases l<;>rfl
    have hpos:0<Az.size:=by
     show 0<((if old'.isEmpty then #[none]else #[])++(old'++new').map some:Array (az MapEntry)).size;cases he:old'.isEmpty with
     |true=>simp;omega
     |false=>
      have:0<old'.size:=by
       rcases WX old'.size with h0|h0
       .have:old'= #[]:=Array.eq_empty_of_size_eq_zero h0;rw[this]at he;simp at he
       .exact h0
      simp;omega
    obtain⟨k,w1,k1,k2,k3,k4,k5,k6,k7⟩:=agO (P:=P) Az.size hpos w;have hW1:WR P β h w1:=hW.qO k3;have hE1:Eff β h w β h w1:=Eff.qO hW.dom k3 k4 k5 k6 k7;have hguard:(!seen'.isEmpty&&!es'.isEmpty&&es'.all (·.born>=last))=false:=by
     rw[<- hc];have e1:seen'.isEmpty=seen.isEmpty:=by rw[<- o2];cases seen' with|mk l=>cases l<;>rfl
     have e2:es'.isEmpty=es.isEmpty:=by rw[<- p2.isEmpty];cases es' with|mk l=>cases l<;>rfl
     have e3:es'.all (·.born>=last)=es.all (λe=>Nat.ble last e.born):=by
      rw[<- p2.all (λn=>Nat.ble last n),<- Array.all_toList];congr 1;funext e;rw[wM];simp[vH]
     rw[e1,e2,e3]
    have hck:Az[k]? =some Az[k]:=by simp[k2]
    have hrun:∀(x:az MapEntry),Az[k]? =some x->(Instr.next (.pointer (some ⟨g.b,0,none⟩)) false ty).run P w=
     (match x with
     |some e=>do setObj g.b (.mapIter (some gm.b) since (seen'.push e.born) clock);pure (.tuple #[.bool true,e.key,e.val])
     |none=>pure (.tuple #[.bool false]):Sem ah).run P w1:=λx hx=>by
     simp only[Instr.next,dY,Av o1 s7,Av p1 s7,eZ,hguard,DR,if_false];have k1':=k1;simp only[Az,old',new',left']at k1' hx;simp only[dY,fZ,eZ,k1',hx];cases x<;>rfl
    have hmem:Az[k]∈Az.toList:=s7
    cases hx:Az[k]with
    |none=>
     rw[hx]at hmem hck;have hemp:old.isEmpty=true:=by
      rw[<- hoe];cases he:old'.isEmpty with
      |true=>rfl
      |false=>
       exfalso
       have:none∈((if old'.isEmpty then #[none]else #[])++(old'++new').map some:Array (az MapEntry)).toList:=hmem;rw[he]at this;simp at this
     refine⟨(.tuple #[.bool false],h),?_,.tuple #[.bool false],w1,by rw[hrun none hck];rfl,.tuple (.cons (.bool _) .nil),hW1,hE1⟩;rw[<- ha];refine ul _ ?_;have:(left.filter λe=>Nat.blt e.born since).isEmpty=true:=hemp;rw[if_pos this];simp
    |some e'=>
     rw[hx]at hmem hck;have agR:e'∈old'.toList++new'.toList:=by
      have:some e'∈((if old'.isEmpty then #[none]else #[])++(old'++new').map some:Array (az MapEntry)).toList:=hmem;simp only[Array.toList_append,Array.toList_map,fU,cO,bC,exists_eq_right]at this;rcases this with h1|h1
      .exfalso;split at h1<;>simp at h1
      .simpa using h1
     obtain⟨e,he,q1,q2,q3,q4⟩:=(hold'.append agQ).mem agR;have hlt:g.b<w1.heap.size:=by
      rw[k3];rcases L9 g.b w.heap.size with hh|hh
      .exact hh
      .rw[Array.getElem?_eq_none hh]at o1;cases o1
     have o1':w1.heap[g.b]? =some (.mapIter (some gm.b) since seen' last):=by rw[k3];exact o1
     obtain⟨z1,z2,z3⟩:=Ju (w:=w1) (o:=.mapIter (some gm.b) since (seen'.push e'.born) clock) hlt;obtain⟨y1,y2⟩:=hW1.write hb hg (.mapIter (some m) since (seen++[e.born]) clock) z1 z2 rfl rfl rfl (bG _)
      ⟨some gm.b,seen'.push e'.born,z3,by rw[Array.toList_push,o2,q3],o3,o4⟩
     refine⟨(.tuple #[.bool true,e.key,e.val],h.set r (.mapIter (some m) since (seen++[e.born]) clock)),?_,.tuple #[.bool true,e'.key,e'.val],_,?_,?_,y1,hE1.trans y2⟩
     .rw[<- ha];refine wQ _ (cO.2 ⟨e,he,rfl⟩)
     .rw[hrun (some e') hck];simp only[dY,Ro o1' s7,eZ,fZ]
     .refine .tuple (.cons (.bool _) (.cons ?_ (.cons q4 .nil)));rw[q1];exact VR.free q2
   .cases ha
  .cases ha
 .cases ha
def agT{ds:ae Tmp}{a:bE}{K:KO}{s:bV}{l:ae bV}(hw:a.wants s.s.guard=some true)(x:aB)(hop:s.s.op=.Ai x)(hre:s.re=[])(alts:ae (ah×IH))(ha:Eb (a.eval x) h=some alts)
 (ih:∀vh∈alts,qy P ds l (a.put s.s.dst vh.1) vh.2 K):qy P ds (s::l) a h K:=by
 intro ops cZ hv rest done S hp hds β0 h0 w0 lF kE cs0 β w b tm df k cs ρ hG hdom hcx hI hR hcs hro;cases rest with
 |nil=>cases hp.1
 |cons i rest=>
  have mF:=Gl hp vA;obtain⟨o,S',β',w',tm',ρ',ho,iK,hdst,t1,t0,t2,r4,hstep,om,hpre,hwant,hG',vP,hrr⟩:=come hp mF hG hdom hI hR b k cs;rw[hop]at iK;have h1:=agC iK;have hxv:=vP x (by rw[h1];simp[Op.operands]);obtain⟨vh,hm,r',w2,n1,n2,n3,n4⟩:=agP ha hxv t2.wr o.type;have hr:(execOp (Act.eval ⟨tm',df⟩) o).run P w'=.ok (.value r') w2:=by
   obtain⟨dst,op,type,pos,after,guard⟩:=o;subst h1;exact Ar n1
  have hs:=MV (b:=b) (k:=k) (cs:=cs) (rest:=ρ') ho (hwant _ hw) (by grind) hr (.inl rfl);have hI2:=t2.sync hstep ho hpre n4 n3 n2 (a2:=a.put s.s.dst vh.1) (λt=>by rw[hdst]) (sU _ _ _) xj
   (by grind)
  exact .of_steps (t1.trans (.one hs)) (ih vh hm ops cZ hv rest (i::done) (i::S') om hds β0 h0 w0 lF kE cs0 β' w2 b _ df k cs ρ' hG hdom hcx hI2 r4 (by rw[yj];exact hcs.mono t0) ua)
