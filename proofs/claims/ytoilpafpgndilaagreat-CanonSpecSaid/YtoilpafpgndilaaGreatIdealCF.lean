/- Part. -/
import Derived.Test.YtoilpafpgndilaaGreatIdealAF
import Derived.Laws.BytesString
import Derived.Recover
import Derived.RangeFuncRecord
set_option linter.all false
namespace Go.Ideal
variable {P:Program} {β:aG} {h:IH} {w:World}
def YG(v:vI)(l:kI vI):Gw (v::l)=match v,Gw l with
 | .int .u8 k,some r=>some (UInt8.ofNat k.toNat::r)
 |_,_=>none:=rfl
def YH{cs:kI vI}{bs:kI UInt8}(h:Gw cs=some bs):∃ns:kI Int,cs=ns.map (Value.int .u8)/\bs=ns.map λn=>UInt8.ofNat n.toNat:=by
 induction cs generalizing bs with
 |nil=>change some []=some bs at h;simp only[aD]at h;exact⟨[],rfl,by rw[<- h];rfl⟩
 |cons v l ih=>
  rw[YG]at h;split at h
  .rename_i k r hr;simp only[aD]at h;obtain⟨ns,h1,h2⟩:=ih hr;exact⟨k::ns,by simp[h1],by simp[<- h,h2]⟩
  .cases h
def YI(ns:kI Int):∀(r:ByteArray),ns.foldl (λr n=>r.push (UInt8.ofNat n.toNat)) r=⟨r.data++(ns.map λn=>UInt8.ofNat n.toNat).toArray⟩:=by
 induction ns with
 |nil=>intro r;simp
 |cons n ns ih=>intro r;simp only[wO];rw[ih];simp[ByteArray.push]
def YJ{ns:kI Int}{l':kI vI}(h:aW β (ns.map (Value.int .u8)) l'):l'=ns.map (Value.int .u8):=by
 induction ns generalizing l' with
 |nil=>cases h;rfl
 |cons n ns ih=>cases h with|cons hv hl=>rw[hv.mo,ih hl];rfl
section
variable {dst:x8 Tmp} {type:adH} {pos:String} {after:Array Edge} {guard:x8 (Nat×Bool)} {c:aF} {ρ ρ':aaB->vI} {v:vI} {h':IH}
variable{x:aaB}
def YK{s d:adH}(hc:cop P ⟨dst,.convert s d x,type,pos,after,guard⟩=some c)(hr:c.run P ρ h=some (v,h'))(hx:VR β (ρ x) (ρ' x))(hW:WR P β h w):
 Good P β h w (execOp ρ' ⟨dst,.convert s d x,type,pos,after,guard⟩) v h':=by
 have YL:∀y,c=.conv s d y->y=x->Good P β h w (execOp ρ' ⟨dst,.convert s d x,type,pos,after,guard⟩) v h':=by
  rintro y rfl rfl;simp only[aF.run]at hr;cases hf:cK (ρ y)with
  |false=>rw[hf]at hr;cases hr
  |true=>
   exact ff
 simp only[cop]at hc;split at hc
 .cases hc
 .rename_i e hs hd;split at hc
  .rename_i he;cases hc;simp only[aF.run]at hr;split at hr
   .rename_i n k ha;simp only[aD,di]at hr;obtain⟨rfl,rfl⟩:=hr;rw[ha]at hx;have hx':ρ' x=.slice none n k:=by generalize ρ' x=y at hx;cases hx;rfl
    refine Good.same hW (v':=.string .empty) ?_ (.string _);have:=run_convert_bytes_string (P:=P) w s d e none n k hs he hd;simp only[execOp,hx',dG,this];simp[Conv.bytesToString]
   .rename_i i o f n k ha;split at hr
    .rename_i cs hcs;split at hr
     .rename_i bs hbs;simp only[aD,di]at hr;obtain⟨rfl,rfl⟩:=hr;rw[ha]at hx;obtain⟨g,a,c',hg,hx',ha1,ha2,hn,hcc,hoff,_⟩:=hx.nT;obtain⟨cs0,q1,q2⟩:=Cf hcs;obtain⟨m1,m2,l',m3,m4⟩:=GH hW hg q1 q2;obtain⟨ns,n1,n2⟩:=YH hbs;subst n1;have hl':=YJ m3;subst hl';have hload:(loadCells a n).run P w=.ok (ns.map (Value.int .u8)).toArray w:=by
       rcases hoff with h0|⟨h0,ha2⟩
       .have hn0:n=0:=by omega
        subst hn0;have:ns=[]:=by
         cases ns with
         |nil=>rfl
         |cons x l=>simp at m1
        subst this;simp[loadCells,loadCellsFrom]
       .obtain⟨ab,ao,as⟩:=a;simp only at ha1 ha2 h0;subst ha1 ha2 h0;have:=KM (P:=P) (w:=w) (b:=g.b) (o:=g.off+o) m1 m4;simpa using this
      refine Good.same hW (v':=.string ⟨⟨bs⟩⟩) ?_ (.string _);simp only[execOp,hx',dG,run_convert_bytes_string (P:=P) w s d e (some a) n c' hs he hd,run_bytesToString w a n c' ns hload,dJ,fw,YI,n2];have he0:ByteArray.empty.data= #[]:=rfl;rw[he0];simp
     .cases hr
    .cases hr
   .cases hr
  .cases hc
 .cases hc
 .simp only[aD]at hc;exact YL x hc.symm rfl
 .cases hc
def YM{t:adH}{y:aaB}(hc:cop P ⟨dst,.index t x y,type,pos,after,guard⟩=some c)(hr:c.run P ρ h=some (v,h'))(hx:VR β (ρ x) (ρ' x))(hy:VR β (ρ y) (ρ' y))(hW:WR P β h w):
 Good P β h w (execOp ρ' ⟨dst,.index t x y,type,pos,after,guard⟩) v h':=by
 simp only[cop]at hc;split at hc
 .rename_i n e hu;split at hc
  .rename_i s d hs hd;cases hc;obtain⟨hs1,hs2⟩:=tu hs;simp only[aF.run]at hr;split at hr
   .rename_i cs k i ha hi;rw[ha]at hx;rw[hi]at hy;obtain⟨cs',h1,h2,hx'⟩:=hx.KQ;have hy':=hy.mo;cases hb:Nat.blt i n with
    |false=>rw[hb]at hr;cases hr
    |true=>
     rw[hb]at hr;simp only[cond_true]at hr;have hlt:i<n:=Bk
     have hr':h'=h/\(match jC P e with
      |true=>match jf (jH cs (i*s)) s with
       |some l=>some (.agg ⟨l⟩:vI)
       |none=>none
      |false=>jU cs (i*s))=some v:=by
      cases hagg:jC P e with
      |true=>
       rw[hagg]at hr;simp only at hr⊢;split at hr
       .rename_i l hl;have hl:jf (jH cs (i*s)) s=some l:=hl;rw[hl];exact nq
       .cases hr
      |false=>
       rw[hagg]at hr;simp only at hr⊢;split at hr
       .rename_i l hl;have hl:jU cs (i*s)=some l:=hl;rw[hl];exact nq
       .cases hr
     obtain⟨rfl,hr2⟩:=hr';obtain⟨v',p1,p2⟩:=QC hd hs1 h1 h2 hr2 w;refine Good.same hW (v':=v') ?_ p2;simp only[execOp,Instr.index,dG,fJ hu,dJ,hx',hy',asIntOf,fw,mP hs1];rw[if_pos ⟨An,AI⟩];simp[mP hs1,p1]
   .cases hr
  .cases hc
 .rename_i hu;cases hc;simp only[aF.run]at hr;split at hr
  .rename_i s k i ha hi;rw[ha]at hx;rw[hi]at hy;have hx':=hx.Ai;have hy':=hy.mo;split at hr
   .rename_i b hb;simp only[aD,di]at hr;obtain⟨rfl,rfl⟩:=hr;rw[sZ]at hb;refine Good.same hW (v':=.int .u8 b.toNat) ?_ (.int _ _);have hlt:i<s.size:=by
     have:=(bq.1 hb).1;exact this
    have hb2:s[i]? =some b:=by
     rw[getElem?_pos s i hlt];exact congrArg some (bq.1 hb).2
    simp only[execOp,Instr.index,dG,fJ hu,dJ,hx',hy',asIntOf,fw];have h0:(0:Int)<=Int.ofNat i:=An
    rw[if_pos h0];simp only[Int.ofNat_eq_natCast,kJ,hb2];rfl
   .cases hr
  .cases hr
 .cases hc
def yP(b:Builtin)(args:Array aaB)(ats:Array adH)(ρ:aaB->vI):
 execOp ρ ⟨dst,.call {callee:=.builtin b,args,argTypes:=ats},type,pos,after,guard⟩=builtin b ats type (args.map λ| .const _=>true|_=>false) (args.map ρ):=rfl
variable{args:Array aaB}{ats:Array adH}
def YN(ha:args.toList=[x])(hc:cop P ⟨dst,.call {callee:=.builtin .len,args,argTypes:=ats},type,pos,after,guard⟩=some c)
 (hr:c.run P ρ h=some (v,h')) (hx:VR β (ρ x) (ρ' x)) (hW:WR P β h w):
 Good P β h w (execOp ρ' ⟨dst,.call {callee:=.builtin .len,args,argTypes:=ats},type,pos,after,guard⟩) v h':=by
 obtain rfl:args= #[x]:=B7
 rw[yP];simp only[cop]at hc;split at hc
 .rename_i t ht;have hm:(#[x].map ρ')= #[ρ' x]:=by simp
  rw[hm];split at hc
  .rename_i hu;cases hc;simp only[aF.run]at hr;split at hr
   .rename_i s hs;simp only[aD,di]at hr;obtain⟨rfl,rfl⟩:=hr;rw[hs]at hx;refine Good.same hW (v':=goInt s.size) ?_ (.int _ _);simp[builtin,Builtin.len_,ht,hx.Ai,fJ hu]
   .cases hr
  .rename_i n e hu;cases hc;simp only[aF.run,aD,di]at hr;obtain⟨rfl,rfl⟩:=hr;refine Good.same hW (v':=goInt n) ?_ (.int _ _);simp[builtin,Builtin.len_,ht,fJ hu]
  .rename_i p hu;split at hc
   .rename_i n e hu2;cases hc;simp only[aF.run,aD,di]at hr;obtain⟨rfl,rfl⟩:=hr;refine Good.same hW (v':=goInt n) ?_ (.int _ _);simp[builtin,Builtin.len_,ht,fJ hu,fJ hu2]
   .cases hc
  .rename_i e hu;cases hc;simp only[aF.run]at hr;split at hr
   .rename_i a n k hs;simp only[aD,di]at hr;obtain⟨rfl,rfl⟩:=hr;rw[hs]at hx;have hx':∃a' k',ρ' x=.slice a' n k':=by generalize ρ' x=y at hx;cases hx<;>exact⟨_,_,rfl⟩
    obtain⟨a',k',hx'⟩:=hx';refine Good.same hW (v':=goInt n) ?_ (.int _ _);simp[builtin,Builtin.len_,ht,hx',fJ hu]
   .cases hr
  .rename_i kt et hu;cases hc;simp only[aF.run]at hr;split at hr
   .rename_i es hes;simp only[aD,di]at hr;obtain⟨rfl,rfl⟩:=hr;refine Good.same hW (v':=goInt (iL es)) ?_ (.int _ _);rcases QE hW hx hes with⟨_,h2,h3⟩|⟨i,g,es',clock,clock',_,_,_,h4,h5,_,h6⟩
    .subst h3;simp[builtin,Builtin.len_,ht,h2,fJ hu];rfl
    .have hsz:es'.size=iL es:=by rw[xe,<- Array.length_toList];exact h6.length
     simp[builtin,Builtin.len_,ht,h4,fJ hu,xy h5,hsz]
   .cases hr
  .cases hc
 .cases hc
def YO(ha:args.toList=[x])(hc:cop P ⟨dst,.call {callee:=.builtin .cap,args,argTypes:=ats},type,pos,after,guard⟩=some c)
 (hr:c.run P ρ h=some (v,h')) (hx:VR β (ρ x) (ρ' x)) (hW:WR P β h w):
 Good P β h w (execOp ρ' ⟨dst,.call {callee:=.builtin .cap,args,argTypes:=ats},type,pos,after,guard⟩) v h':=by
 obtain rfl:args= #[x]:=B7
 rw[yP];simp only[cop]at hc;split at hc
 .rename_i t ht;have hm:(#[x].map ρ')= #[ρ' x]:=by simp
  rw[hm];split at hc
  .rename_i e hu;cases hc;simp only[aF.run]at hr;split at hr
   .rename_i n k hs;simp only[aD,di]at hr;obtain⟨rfl,rfl⟩:=hr;rw[hs]at hx;have hx':ρ' x=.slice none n k:=by generalize ρ' x=y at hx;cases hx;rfl
    refine Good.same hW (v':=goInt k) ?_ (.int _ _);simp[builtin,Builtin.cap_,ht,hx',fJ hu]
   .rename_i i o n k hs;simp only[aD,di]at hr;obtain⟨rfl,rfl⟩:=hr;rw[hs]at hx;obtain⟨g,a,c',hg,hx',_,_,_,_,_,hk⟩:=hx.nT;have hck:c'=k:=by
     rcases hk with hk|hk
     .exact hk.2
     .have:=hk.1;simp at this;omega
    subst hck;refine Good.same hW (v':=goInt c') ?_ (.int _ _);simp[builtin,Builtin.cap_,ht,hx',fJ hu]
   .cases hr
  .cases hc
 .cases hc
def QJ{mx:Bool}{xs ys:kI vI}{v:vI}{h':IH}{args:kI aaB}(hl:lN ρ args=xs)(hr:(aF.zW mx args).run P ρ h=some (v,h'))(hxs:aW β xs ys)(hW:WR P β h w):
 h'=h/\VR β v v/\(cond mx (Builtin.max_ #[] 0 ⟨ys⟩) (Builtin.min_ #[] 0 ⟨ys⟩)).run P w=.ok v w:=by
 simp only[aF.run,hl]at hr;split at hr
 .rename_i j a k b;cases hk:uA j k with
  |false=>rw[hk]at hr;cases hr
  |true=>
   have:=Qz hk;subst this;rw[hk]at hr;simp only[cond_true,aD,di]at hr;obtain⟨rfl,rfl⟩:=hr;refine⟨rfl,.int _ _,?_⟩;cases hxs with
   |cons h1 h2=>cases h2 with
    |cons h2 h3=>
     cases h3;rw[h1.mo,h2.mo];cases mx
     .simp only[cond_false,Builtin.min_,List.foldlM_cons,List.foldlM_nil,Builtin.min2,tC];simp only[dG,fw,dJ,pure_bind,bind_pure];congr 2;by_cases hab:a<=b
      .rw[if_neg z7];simp[hab]
      .rw[if_pos z7];simp[hab]
     .simp only[cond_true,Builtin.max_,List.foldlM_cons,List.foldlM_nil,Builtin.max2,tC];simp only[dG,fw,dJ,pure_bind,bind_pure];congr 2;by_cases hab:b<=a
      .rw[if_neg z7];simp[hab]
      .rw[if_pos z7];simp[hab]
 .cases hf:fZ xs with
  |false=>rw[hf]at hr;cases hr
  |true=>
   rw[hf]at hr;simp only[cond_true]at hr;split at hr
   .rename_i u hu;simp only[aD,di]at hr;obtain⟨rfl,rfl⟩:=hr;obtain⟨h1,h2⟩:=Ec hu;rw[hxs.qb hf];exact⟨rfl,VR.free h2,yL h1 w⟩
   .cases hr
def QK{b:Builtin}(hb:b=.min\/b=.max)(hc:cop P ⟨dst,.call {callee:=.builtin b,args,argTypes:=ats},type,pos,after,guard⟩=some c)
 (hr:c.run P ρ h=some (v,h')) (hx:∀x∈args.toList,VR β (ρ x) (ρ' x)) (hW:WR P β h w):
 Good P β h w (execOp ρ' ⟨dst,.call {callee:=.builtin b,args,argTypes:=ats},type,pos,after,guard⟩) v h':=by
 rw[yP];have hxs:aW β (lN ρ args.toList) (args.toList.map ρ'):=aW.of_map hx;have hargs:args.map ρ'=⟨args.toList.map ρ'⟩:=by apply Array.ext';rw[Kh]
 rw[hargs];rcases hb with rfl|rfl
 .have:c=.zW false args.toList:=by
   simp only[cop]at hc;exact s5
  subst this;obtain⟨rfl,m2,m3⟩:=QJ rfl hr hxs hW;refine Good.same hW (v':=v) ?_ m2;have m3:(Builtin.min_ ats type ⟨args.toList.map ρ'⟩).run P w=.ok v w:=m3;simp only[builtin,dG,m3,dJ,fw]
 .have:c=.zW true args.toList:=by
   simp only[cop]at hc;exact s5
  subst this;obtain⟨rfl,m2,m3⟩:=QJ rfl hr hxs hW;refine Good.same hW (v':=v) ?_ m2;have m3:(Builtin.max_ ats type ⟨args.toList.map ρ'⟩).run P w=.ok v w:=m3;simp only[builtin,dG,m3,dJ,fw]
end
end Go.Ideal
namespace Go.Ideal
variable {P:Program} {β:aG} {h:IH} {w:World}
variable{size n:Nat}{xs:kI vI}
def GN{m:Nat}{x x':vI}(hf:nE size n x h=some xs)(hl:oW x=some m)(hnm:n<=m)(hx:VR β x x')(hW:WR P β h w):
 ∃xs',aW β xs xs'/\xs.all cellV=true/\xs.length=n*size/\(∀w1,(Builtin.lenOf x').run P w1=.ok m w1)/\∀w1:World,w1.heap=w.heap->(Builtin.firstCells size n x').run P w1=.ok ⟨xs'⟩ w1:=by
 unfold nE at hf;split at hf
 .rename_i i o f len cap;simp only[oW,aD]at hl;subst hl;obtain⟨g,a,c',hg,rfl,ha1,ha2,hn,hcc,hoff,_⟩:=hx.nT;obtain⟨cs0,q1,q2⟩:=Cf hf;obtain⟨m1,m2,l',m3,m4⟩:=GH hW hg q1 q2;refine⟨l',m3,m2,m1,λw1=>rfl,λw1 hw1=>?_⟩;have hll:l'.length=n*size:=m3.length.trans m1;rcases hoff with h0|⟨h0,ha2⟩
  .have hn0:n=0:=by omega
   subst hn0;have:l'=[]:=by
    cases l' with
    |nil=>rfl
    |cons x l=>simp at hll
   subst this;simp[Builtin.firstCells,loadCells,loadCellsFrom]
  .obtain⟨ab,ao,as⟩:=a;simp only at ha1 ha2 h0;subst ha1 ha2 h0;exact run_firstCells_some w1 size n _ _ _ l' hll λj v hj=>by
    rw[addr_add,<- m4 j v hj];simp only[World.cell?,hw1]
 .rename_i len cap;simp only[oW,aD]at hl;subst hl;have hx':x'=.slice none len cap:=by cases hx;rfl
  rw[hx'];clear hx hx';split at hf
  .simp only[aD]at hf;subst hf;exact⟨[],.nil,rfl,An,λ_=>rfl,λw1 _=>by simp[Builtin.firstCells]⟩
  .cases hf
 .rename_i s;simp only[oW,aD]at hl;subst hl;obtain rfl:=hx.Ai;cases hsz:Nat.beq size 1 with
  |false=>rw[hsz]at hf;cases hf
  |true=>
  have hsz1:size=1:=qo hsz;subst hsz1;rw[hsz]at hf;simp only[cond_true]at hf;rw[qD]at hf;split at hf
  .rename_i l hl;split at hl
   .rename_i hle;simp only[aD]at hf hl;subst hf hl;have hfree:fZ (lN (λb:UInt8=>Value.int .u8 b.toNat) (s.data.toList.take n))=true:=by
     rw[vQ];generalize s.data.toList.take n=l;induction l with
     |nil=>rfl
     |cons b l ih=>simp[fZ,cK,cellV,ih]
    refine⟨_,aW.free hfree,uG hfree,?_,λ_=>rfl,λw1 _=>?_⟩
    .rw[vQ];simp at hle⊢;omega
    .rw[vQ];simp only[Builtin.firstCells,fw];congr 1;apply Array.ext';simp[ByteArray.data_extract,PL]
   .cases hl
  .cases hf
 .cases hf
def YP(b:Nat)(o:Nat)(vs:kI vI):(w.setCells b o vs).heap.size=w.heap.size/\(∀x,x≠b->(w.setCells b o vs).heap[x]? =w.heap[x]?)/\
 ((∃c t fz,w.heap[b]? =some (.cells c t fz))->∃c t fz,(w.setCells b o vs).heap[b]? =some (.cells c t fz))/\(w.setCells b o vs).tape=w.tape/\(w.setCells b o vs).os=w.os/\(w.setCells b o vs).output=w.output:=by
 refine⟨?_,?_,?_,?_,?_,?_⟩
 .induction vs generalizing o w with
  |nil=>rfl
  |cons v vs ih=>show((w.setCell ⟨b,o,none⟩ v).setCells b (o+1) vs).heap.size=_;rw[ih];simp
 .induction vs generalizing o w with
  |nil=>intro x _;rfl
  |cons v vs ih=>intro x hx;show((w.setCell ⟨b,o,none⟩ v).setCells b (o+1) vs).heap[x]? =_;rw[ih _ x hx,Go.RowKit.Below.heap_setCell _ _ _ _ hx]
 .induction vs generalizing o w with
  |nil=>exact id
  |cons v vs ih=>
   rintro⟨c,t,fz,hh⟩;refine ih (w:=w.setCell ⟨b,o,none⟩ v) _ ⟨c.setIfInBounds o v,t,fz,?_⟩;simp[World.setCell,Array.getElem?_modify,hh]
 .induction vs generalizing o w with
  |nil=>rfl
  |cons v vs ih=>show((w.setCell ⟨b,o,none⟩ v).setCells b (o+1) vs).tape=_;rw[ih];rfl
 .exact(PE b (may:=λ_=>True) vs o w (λ_ _=>trivial)).1
 .exact(PE b (may:=λ_=>True) vs o w (λ_ _=>trivial)).2.1
variable{ats:Array adH}{ty st xt e:adH}{xd:TypeDesc}
def La(h0:ats[0]? =some st)(h1:ats[1]? =some xt)(hu:P.underlying st=some (.slice e))(hx:P.underlying xt=some xd)(hni:∀k,xd≠.int k)
 (hs:jB P e=some size) {base:x8 Addr} {len cap n:Nat} {x:vI} (hl:∀w,(Builtin.lenOf x).run P w=.ok n w) (hle:len+n<=cap) {xs:kI vI} (hf:(Builtin.firstCells size n x).run P w=.ok ⟨xs⟩ w)
 {w':World} (hst:(match base with|some a=>storeCells (a.add (len*size)) xs|none=>pure ()).run P w=.ok () w'):
 (Builtin.append_ ats ty #[.slice base len cap,x]).run P w=.ok (.slice base (len+n) cap) w':=by
 have hz:(match xd with| .int _=>true|_=>false)=false:=HE
 simp only[Builtin.append_,h0,h1,Ki,zQ,qZ,dG,fJ hu,fJ hx,mP hs,dJ,fw,hz,vJ,if_false,hl,hle,if_true,Bool.not_false,hf];cases base with
 |none=>cases hst;rfl
 |some a=>simp only[dG,hst,dJ,fw]
def YQ{i:TypeInfo}{z:vI}(h0:ats[0]? =some st)(h1:ats[1]? =some xt)(hu:P.underlying st=some (.slice e))(hx:P.underlying xt=some xd)(hni:∀k,xd≠.int k)
 (hs:jB P e=some size) (hi:P.info? e=some i) (hz:i.zero=some z) (hzl:z.cells.size=size) {base:x8 Addr} {len cap n:Nat} {x:vI} (hl:∀w,(Builtin.lenOf x).run P w=.ok n w) (hgt:cap<len+n)
 (hb:0<i.bytes) (hfit:(len+n)*i.bytes<=1073741824) {xs olds:kI vI} (hf:∀w1:World,w1.heap=w.heap->(Builtin.firstCells size n x).run P w1=.ok ⟨xs⟩ w1) (hfo:∀w1:World,w1.heap=w.heap->(Builtin.firstCells size len (.slice base len cap)).run P w1=.ok ⟨olds⟩ w1):
 ∃c rest,len+n<=c/\rest.length=(c - (len+n))*size/\
  (Builtin.append_ ats ty #[.slice base len cap,x]).run P w=.ok (.slice (some ⟨w.heap.size,0,none⟩) (len+n) c) {w.drew with heap:=w.heap.push (.cells ⟨olds++xs++rest⟩ e)}:=by
 have hz0:(match xd with| .int _=>true|_=>false)=false:=HE
 have hn:¬(len+n<=cap):=z7
 have hnb:len+n<=(len+n)*i.bytes:=Nat.le_mul_of_pos_right _ hb;have h63':¬(9223372036854775807<((len:Int)+(n:Int))):=z7
 have h48':¬(281474976710656<Builtin.nextslicecap (len+n) cap*i.bytes):=by
  have:=growslice_fits (need:=len+n) (old:=cap) (bytes:=i.bytes) hgt z7;omega
 refine⟨grownCap w (len+n) cap e,(Builtin.zeroCells z.cells (grownCap w (len+n) cap e - (len+n))).toList,?_,?_,?_⟩
 .exact vA
 .simp[Builtin.zeroCells,hzl]
 .have hf':=hf w.drew rfl;have YR:=hfo w.drew rfl;have hsz:i.size=size:=by simpa[jB,hi]using hs
  simp[Builtin.append_,h0,h1,fJ hu,fJ hx,sizeOf,typeInfo,zeroValue,hi,hz,hl,hn,h63',h48',Question.forced,hz0,hsz,hf',YR,newRow,grownCap];have:∀Z:Array vI,((⟨olds⟩:Array vI)++((⟨xs⟩:Array vI)++Z))=⟨olds++(xs++Z.toList)⟩:=λZ=>by apply Array.ext';simp
  rw[this];rfl
def YS{bytes:Nat}{s v:vI}{h':IH}(hr:wX size bytes s n xs h=some (v,h')):∃base len cap,s=.slice base len cap/\(len+n)*bytes<=small/\(len+n)*size<=small/\
 ((len+n<=cap/\((∃i o f,base=some ⟨i,o,f⟩/\h.storeAt i (o+len*size) xs=some h'/\v=.slice (some ⟨i,o,f⟩) (len+n) cap)\/(base=none/\n=0/\h'=h/\v=.slice none (len+n) cap)))\/
   (¬len+n<=cap/\∃old,nE size len s h=some old/\v=.slice (some ⟨h.next,0,some size⟩) (len+n) (len+n)/\
     ((∃i o,base=some ⟨i,o,some size⟩/\0<size/\h'=(h.kill i).new (.cells (ko old xs)))\/((∀i o k,base≠some ⟨i,o,some (k+1)⟩)/\h'=h.new (.cells (ko old xs)))))):=by
 unfold wX at hr;split at hr
 .rename_i base len cap;simp only at hr;cases hc:(((len.add n).mul bytes).ble small&&((len.add n).mul size).ble small&&(len.add n).ble small)with
  |false=>rw[hc]at hr;cases hr
  |true=>
   rw[hc]at hr;simp only[cond_true]at hr;simp only[afD]at hc;refine⟨base,len,cap,rfl,mK hc.1.1,mK hc.1.2,?_⟩;cases hle:Nat.ble (len.add n) cap with
   |true=>
    rw[hle]at hr;simp only[cond_true]at hr;refine .inl ⟨mK hle,?_⟩;split at hr
    .rename_i i o f;split at hr
     .rename_i h2 hst;simp only[aD,di]at hr;obtain⟨rfl,rfl⟩:=hr;exact .inl ⟨i,o,f,rfl,hst,rfl⟩
     .cases hr
    .split at hr
     .simp only[aD,di]at hr;obtain⟨rfl,rfl⟩:=hr;exact .inr ⟨rfl,rfl,rfl,rfl⟩
     .cases hr
   |false=>
    rw[hle]at hr;simp only[cond_false]at hr;refine .inr ⟨λhh=>?_,?_⟩
    .have:Nat.ble (len.add n) cap=true:=F9 hh;rw[this]at hle;cases hle
    .split at hr
     .cases hr
     .rename_i old hold;refine⟨old,hold,?_⟩;split at hr
      .rename_i i o k;cases hb:Nat.beq (Nat.succ k) size with
       |false=>rw[hb]at hr;cases hr
       |true=>
        have hk:k+1=size:=qo hb;rw[hb]at hr;simp only[cond_true,aD,di]at hr;obtain⟨rfl,rfl⟩:=hr;have hk2:k.succ=size:=hk;exact⟨rfl,.inl ⟨i,o,by rw[hk2],z7,rfl⟩⟩
      .rename_i hnot;simp only[aD,di]at hr;obtain⟨rfl,rfl⟩:=hr;exact⟨rfl,.inr ⟨λi o k hh=>hnot i o k hh,rfl⟩⟩
 .cases hr
def Lb(hW:WR P β h w){i o d:Nat}{g:iJ}{a:Addr}(hg:β i=some g)(ha1:a.block=g.b){vs vs':kI vI}(hoff:vs=[]\/(a.off=g.off+o/\a.spot=none)){h':IH}(hs:h.storeAt i (o+d) vs=some h')(hv:aW β vs vs')(hall:vs.all cellV=true):
 ∃w',(∀k,k=0->(storeCells (a.add d) vs' k).run P w=.ok () w')/\WR P β h' w'/\Eff β h w β h' w':=by
 obtain⟨m1,m2,m3⟩:=KP hW hg hs hv hall;refine⟨_,λk hk=>?_,m2,m3⟩;subst hk;rcases hoff with h0|⟨h0,ha2⟩
 .subst h0;cases hv;rfl
 .obtain⟨ab,ao,as⟩:=a;simp only at ha1 ha2 h0;subst ha1 ha2 h0;rw[addr_add,qw];exact m1 0 rfl
section
variable {dst:x8 Tmp} {type:adH} {pos:String} {after:Array Edge} {guard:x8 (Nat×Bool)} {c:aF} {ρ ρ':aaB->vI} {v:vI} {h':IH}
variable{size:Nat}
def YT{n:Nat}{x x':vI}{xs:kI vI}(hf:yG size n x h=some xs)(hl:oW x=some n)(hx:VR β x x')(hW:WR P β h w):
 ∃xs',aW β xs xs'/\xs.all cellV=true/\xs.length=n*size/\(∀w1,(Builtin.lenOf x').run P w1=.ok n w1)/\∀w1:World,w1.heap=w.heap->(Builtin.firstCells size n x').run P w1=.ok ⟨xs'⟩ w1:=by
 cases n with
 |succ k=>exact GN (n:=k+1) hf hl (bT _) hx hW
 |zero=>
  cases x with
  |slice a m c=>
   have e:xs=[]:=by
    have hf:some ([]:kI vI)=some xs:=hf;injection hf with hf;exact hf.symm
   subst e;have hm:m=0:=by
    simp only[oW,aD]at hl;exact hl
   subst hm;have hx':∃a' c',x'=.slice a' 0 c':=by cases hx<;>exact⟨_,_,rfl⟩
   obtain⟨a',c',rfl⟩:=hx';refine⟨[],.nil,rfl,An,λw1=>rfl,λw1 _=>?_⟩;cases a' with
   |none=>simp[Builtin.firstCells]
   |some a'=>simp[Builtin.firstCells,loadCells,loadCellsFrom]
  |string b=>exact GN (size:=size) (n:=0) (m:=0) (x:=.string b) hf hl (bT _) hx hW
  |_=>cases hl
variable{ats:Array adH}{ty st xt e:adH}{i:TypeInfo}{z:vI}
def YU{xd:TypeDesc}(h0:ats[0]? =some st)(h1:ats[1]? =some xt)(hu:P.underlying st=some (.slice e))(hxd:P.underlying xt=some xd)(hni:∀k,xd≠.int k)
 (hs:jB P e=some size) (hsp:0<size) (hi:P.info? e=some i) (hz:i.zero=some z) (hzl:z.cells.size=size) (hb:0<i.bytes) {s s' x x':vI} {n:Nat} {xs:kI vI}
 (hl:oW x=some n) (hf:yG size n x h=some xs) (hr:wX size i.bytes s n xs h=some (v,h')) (hvs:VR β s s') (Ch:VR β x x') (hW:WR P β h w):
 ∃w' β' v',(Builtin.append_ ats ty #[s',x']).run P w=.ok v' w'/\VR β' v v'/\WR P β' h' w'/\Eff β h w β' h' w':=by
 obtain⟨xs',x1,x2,x3,x4,x5⟩:=YT hf hl Ch hW;have hxl:xs'.length=n*size:=x1.length.trans x3;obtain⟨base,len,cap,rfl,s1,s2,s3⟩:=YS hr;unfold small at s1 s2;rcases s3 with⟨hle,hin⟩|⟨hgt,old,hold,rfl,hnew⟩
 .
  rcases hin with⟨j,o,f,rfl,hst,rfl⟩|⟨rfl,rfl,rfl,rfl⟩
  .obtain⟨g,a,c',hg,rfl,ha1,ha2,hn,hcc,hoff,hkind⟩:=hvs.nT;have Ej:xs=[]\/(a.off=g.off+o/\a.spot=none):=by
    rcases hoff with hh|hh
    .left;have:n=0:=by omega
     subst this;rw[<- jy,x3];simp
    .exact .inr hh
   obtain⟨w',p1,p2,p3⟩:=Lb hW hg ha1 Ej hst x1 x2;refine⟨w',β,_,La h0 h1 hu hxd hni hs x4 (pQ hle hcc) (x5 w rfl) (w':=w') (p1 0 rfl),?_,p2,p3⟩;rcases hkind with⟨rfl,rfl⟩|⟨rfl,k1,k2,k3⟩
   .exact .ak hg ha1 hle hoff
   .exact .qa hg ha1 k3.2 hle k1 k2 k3.1 hcc (hoff.imp id (·.1))
  .have hs':s'=.slice none len cap:=by cases hvs;rfl
   subst hs';refine⟨w,β,_,La h0 h1 hu hxd hni hs x4 hle (x5 w rfl) (w':=w) rfl,.sl0 _ _,hW,Eff.refl _ _ _ hW.dom⟩
 .
  obtain⟨old',o1,o2,o3,_,o5⟩:=GN hold rfl (bT _) hvs hW;have hol:old'.length=len*size:=o1.length.trans o3;have hfresh:∀(base':x8 Addr) (cap':Nat) (h2:IH),s'=.slice base' len cap'->cap'<len+n->h2.next=h.next->WR P β h2 w->Eff β h w β h2 w->h'=h2.new (.cells (ko old xs))->
   ∃w' β' v',(Builtin.append_ ats ty #[s',x']).run P w=.ok v' w'/\VR β' (.slice (some ⟨h.next,0,some size⟩) (len+n) (len+n)) v'/\WR P β' h' w'/\Eff β h w β' h' w':=by
   rintro base' cap' h2 rfl hcap hnext hW2 hE2 rfl;obtain⟨cc,rest,a1,a2,a3⟩:=YQ (ty:=ty) h0 h1 hu hxd hni hs hi hz hzl x4 hcap hb z7 x5 o5;have hcap2:(len+n)+(cc - (len+n))=cc:=z7
   have hmul:(len+n)*size+rest.length=cc*size:=by rw[a2,<- ru,hcap2]
   have hlen:(old++xs).length=(len+n)*size:=by rw[iH,o3,x3,ru]
   have hW3:WR P β h2 w.drew:=hW2.uH rfl;have Lc:Eff β h2 w β h2 w.drew:=Eff.uH hW2.dom rfl rfl rfl rfl;have hcells:=OR.GI (P:=P) (β:=β.add h2.next ⟨w.heap.size,0,(len+n)*size,cc*size,size⟩) (w:=w.drew) (cs:=old++xs) (cs':=old'++xs') e
    ((o1.append x1).mono (aG.xm _ hW2.yM)) (by simp[o2,x2]) rest size
   have hcells:OR P (β.add h2.next ⟨w.heap.size,0,(len+n)*size,cc*size,size⟩) ⟨w.heap.size,0,(len+n)*size,cc*size,size⟩ {w.drew with heap:=w.drew.heap.push (.cells ⟨old'++xs'++rest⟩ e)} (.cells (old++xs)):=by
    rw[hlen,hmul]at hcells;exact hcells
   obtain⟨b1,b2⟩:=hW3.alloc (.cells (old++xs)) (.cells ⟨old'++xs'++rest⟩ e) ⟨w.heap.size,0,(len+n)*size,cc*size,size⟩ rfl rfl hcells;refine⟨_,_,_,a3,?_,by rw[jK];exact b1,by rw[jK];exact(hE2.trans Lc).trans b2⟩;have hb:=aG.mh β h2.next ⟨w.heap.size,0,(len+n)*size,cc*size,size⟩
   rw[<- hnext];exact VR.qa (g:=⟨w.heap.size,0,(len+n)*size,cc*size,size⟩) hb rfl rfl (bT _) hsp An An a1 (.inr rfl)
  rcases hnew with⟨j,o,rfl,_,rfl⟩|⟨Em,rfl⟩
  .obtain⟨g,a,c',hg,rfl,ha1,ha2,hn,hcc,hoff,hkind⟩:=hvs.nT;obtain⟨k0,k1,k2,k3,ha2⟩:g.sz=size/\0<g.sz/\o+cap*g.sz=g.len/\g.off+o+c'*g.sz=g.top/\a.spot=none:=by
    rcases hkind with hk|hk
    .have:=hk.1;simp at this;omega
    .have:=hk.1;simp at this;exact⟨this.symm,hk.2.1,hk.2.2.1,hk.2.2.2⟩
   obtain⟨cs0,hcs⟩:∃cs,h.get j=some (.cells cs):=by
    unfold nE at hold;obtain⟨cs,q|q,_⟩:=Cf hold
    .exact⟨cs,q⟩
    .have:=(hW.obj j g _ hg q).2.1;omega
   have hlive:h.get j≠none:=by rw[hcs];simp
   by_cases hfit:len+n<=c'
   .
    have hof:a=⟨g.b,g.off+o,none⟩:=by
     have:a.off=g.off+o:=by rcases hoff with hh|hh<;>omega
     obtain⟨ab,ao,as⟩:=a;simp only at ha1 ha2 this;rw[ha1,ha2,this]
    subst hof;obtain⟨q1,q2,q3,q5,q6,q7⟩:=hW.obj j g _ hg hcs;rw[k0]at k1 k2 k3;have hmul:len*size+n*size=(len+n)*size:=(ru _ _ _).symm;have aki:(len+n)*size<=c'*size:=anD _ hfit;have hin:∀j,j<xs'.length->g.off+o+len*size+j<g.top:=λj hj=>by omega
    have hone:∀v∈xs',v.oneCell'=true:=λv hv'=>by
     obtain⟨j,hj⟩:=jS hv';have hjl:j<xs.length:=by
      rcases rq j xs'.length with hh|hh
      .omega
      .rw[fO hh]at hj;cases hj
     obtain⟨v2,hv2,hr⟩:=x1.get (bP hjl);rw[hv2]at hj;cases hj;have hc:=(lK.1 x2) _ (vF hjl);obtain⟨a,b⟩:=hr.cellV hc;cases v<;>first|rfl|exact absurd rfl (a _)|exact absurd rfl (b _)
    have hrun:(storeCells ((⟨g.b,g.off+o,none⟩:Addr).add (len*size)) xs').run P w=.ok () (w.setCells g.b (g.off+o+len*size) xs'):=by
     rw[addr_add];have:=run_storeCells_cells (P:=P) g.b (g.off+o+len*size) xs' 0 w (λj hj=>(q5 _ (hin j hj)).1) (λj hj=>(q5 _ (hin j hj)).2) hone;simpa using this
    obtain⟨hsz,hother,hsame,Ag,hos,hout⟩:=YP (w:=w) g.b (g.off+o+len*size) xs';refine⟨_,β.add h.next ⟨g.b,g.off+o,(len+n)*size,g.top,size⟩,_,La h0 h1 hu hxd hni hs x4 hfit (x5 w rfl) hrun,?_,?_⟩
    .refine VR.qa (g:=⟨g.b,g.off+o,(len+n)*size,g.top,size⟩) (aG.mh _ _ _) rfl rfl (bT _) hsp An AI hfit (.inr rfl)
    .rw[jK];have hdr:w.drawn<=(w.setCells g.b (g.off+o+len*size) xs').drawn:=by rw[KN];exact bT _
     refine hW.XW hg hlive (by rw[hcs];intro cs e;cases e) (.cells (old++xs)) ⟨g.b,g.off+o,(len+n)*size,g.top,size⟩ rfl hsz hother hos Ag hout hdr ?_;have hle:=aG.xm (β:=β) (i:=h.next) ⟨g.b,g.off+o,(len+n)*size,g.top,size⟩ hW.yM;refine⟨hsame q1,?_,?_,?_,by simp[o2,x2],?_⟩
     .show(old++xs).length=(len+n)*size;rw[iH,o3,x3,ru]
     .show g.off+o+(len+n)*size<=g.top;omega
     .intro j hj;refine⟨?_,by rw[World.frozen?_setCells];exact(q5 j hj).2⟩;by_cases hr:g.off+o+len*size<=j/\j<g.off+o+len*size+xs'.length
      .have:=PG g.b xs' (g.off+o+len*size) w (λk hk=>(q5 _ (hin k hk)).1) (j - (g.off+o+len*size)) z7;rw[show g.off+o+len*size+(j - (g.off+o+len*size))=j by omega]at this;rw[this];simp
      .rw[PI g.b xs' (g.off+o+len*size) w ⟨g.b,j,none⟩ (λ_ _=>by simp;omega)];exact(q5 j hj).1
     .intro j v hj;show∃v',(w.setCells g.b (g.off+o+len*size) xs').cell? ⟨g.b,g.off+o+j,none⟩=some v'/\VR _ v v';by_cases hjo:j<old.length
      .rw[qp hjo]at hj;obtain⟨akj,r1,r2⟩:=Cf (by unfold nE at hold;exact hold);rw[hcs]at r1;rcases r1 with r1|r1<;>cases r1
       rw[show len.mul size=len*size from rfl,qD,p9]at r2;split at r2
       .simp only[aD]at r2;have hj2:cs0[o+j]? =some v:=by
         rw[<- r2,sK,if_pos z7,oO]at hj;exact hj
        obtain⟨v',t1,t2⟩:=q7 (o+j) v hj2;refine⟨v',?_,t2.mono hle⟩;rw[PI g.b xs' (g.off+o+len*size) w ⟨g.b,g.off+o+j,none⟩ (λ_ _=>by simp;omega)];rw[qw];exact t1
       .cases r2
      .rw[pR z7]at hj;obtain⟨v',t1,t2⟩:=x1.get hj;refine⟨v',?_,t2.mono hle⟩;have hlt:j - old.length<xs'.length:=by
        rcases rq (j - old.length) xs'.length with hh|hh
        .exact hh
        .rw[fO hh]at t1;cases t1
       have:=PG g.b xs' (g.off+o+len*size) w (λk hk=>(q5 _ (hin k hk)).1) (j - old.length) hlt;rw[show g.off+o+len*size+(j - old.length)=g.off+o+j by omega]at this;rw[this,<- t1,bP hlt]
   .obtain⟨d1,d2⟩:=hW.drop hg;exact hfresh _ c' (h.kill j) rfl z7 rfl d1 d2 rfl
  .have hs':∃base',s'=.slice base' len cap:=by
    cases hvs with
    |sl0=>exact⟨_,rfl⟩
    |ak=>exact⟨_,rfl⟩
    | @qa i' o' n' c1 c1' g' a' _ _ _ _ hz' _ _ _ _=>
      exfalso
      obtain⟨k,hk⟩:∃k,g'.sz=k+1:=⟨g'.sz - 1,z7⟩
      rw[hk]at Em;exact Em _ _ k rfl
   obtain⟨base',rfl⟩:=hs';exact hfresh base' cap h rfl z7 rfl hW (Eff.refl _ _ _ hW.dom) rfl
variable{k:IntKind}
def YV(h0:ats[0]? =some st)(h1:ats[1]? =some xt)(hu:P.underlying st=some (.slice e))(hx:P.underlying xt=some (.int k))
 (hs:jB P e=some size) (hsp:0<size) (hi:P.info? e=some i) (hz:i.zero=some z) (hzl:z.cells.size=size) {m:Nat} (hm:0<m) (hb:0<i.bytes) (hfit:m*i.bytes<=1073741824):
 ∃c rest,m<=c/\rest.length=(c - m)*size/\
  (Builtin.append_ ats ty #[.slice none 0 0,.int .i64 (m:Int)]).run P w=.ok (.slice (some ⟨w.heap.size,0,none⟩) m c) {w.drew with heap:=w.heap.push (.cells ⟨(Builtin.zeroCells z.cells m).toList++rest⟩ e)}:=by
 have hnb:m<=m*i.bytes:=Nat.le_mul_of_pos_right _ hb;have h48':¬(281474976710656<Builtin.nextslicecap m 0*i.bytes):=by
  have:=growslice_fits (need:=m) (old:=0) (bytes:=i.bytes) z7 z7;omega
 have hw:IntKind.i64.wrap (m:Int)=(m:Int):=IntWalk.i64_in (m:Int) ⟨z7,z7⟩;have hbi:¬((281474976710656:Int)<(m:Int)*(i.bytes:Int)):=by
  have h2:((m*i.bytes:Nat):Int)<=1073741824:=z7
  rw[Int.natCast_mul]at h2;omega
 have hneg:¬((m:Int)<0):=z7
 have hms:¬(m*size=0):=by
  have:=Nat.mul_pos hm hsp;omega
 have hm0:¬(m=0):=z7
 have hs0:¬(size=0):=z7
 have h63':¬((9223372036854775807:Int)<(m:Int)):=z7
 refine⟨grownCap w m 0 e,(Builtin.zeroCells z.cells (grownCap w m 0 e - m)).toList,?_,?_,?_⟩
 .exact vA
 .simp[Builtin.zeroCells,hzl]
 .have hsz:i.size=size:=by simpa[jB,hi]using hs
  simp[Builtin.append_,h0,h1,fJ hu,fJ hx,sizeOf,typeInfo,zeroValue,hi,hz,hw,hbi,hneg,hms,hm0,hs0,h63',h48',Question.forced,hsz,newRow,grownCap,asInt,asIntOf,Builtin.firstCells];have:∀Y Z:Array vI,Y++Z=⟨Y.toList++Z.toList⟩:=λY Z=>by apply Array.ext';simp
  rw[this];rfl
def YW{zv:vI}{z:kI vI}(h0:ats[0]? =some st)(h1:ats[1]? =some xt)(hu:P.underlying st=some (.slice e))(hxd:P.underlying xt=some (.int k))
 (hs:jB P e=some size) (hsp:0<size) (hi:P.info? e=some i) (hz:i.zero=some zv) (hzc:zv.cells=⟨z⟩) (hfr:fZ z=true) (hzl:z.length=size) (hb:0<i.bytes) {m:Nat} (hm:0<m) (hfit:m*i.bytes<=1073741824) (hW:WR P β h w):
 ∃w' β' v',(Builtin.append_ ats ty #[.slice none 0 0,.int .i64 (m:Int)]).run P w=.ok v' w'/\VR β' (.slice (some ⟨h.next,0,some size⟩) m m) v'/\WR P β' (h.new (.cells (zeros z m))) w'/\Eff β h w β' (h.new (.cells (zeros z m))) w':=by
 have hzs:zv.cells.size=size:=by rw[hzc];exact hzl
 have D9:z≠[]:=λe=>by rw[e]at hzl;simp at hzl;omega
 obtain⟨cc,rest,a1,a2,a3⟩:=YV (w:=w) (ty:=ty) h0 h1 hu hxd hs hsp hi hz hzs hm hb hfit;have hrow:(Builtin.zeroCells zv.cells m).toList=zeros z m:=by
  unfold Builtin.zeroCells;rw[hzc];have:=GL z m D9;rw[show(⟨z⟩:Array vI).size=z.length from rfl]at *;rw[this]
 rw[hrow]at a3;have hcap2:m+(cc - m)=cc:=z7
 have hlen:(zeros z m).length=m*size:=by rw[zeros_length,hzl]
 have hmul:m*size+rest.length=cc*size:=by rw[a2,<- ru,hcap2]
 have hW3:WR P β h w.drew:=hW.uH rfl;have Lc:Eff β h w β h w.drew:=Eff.uH hW.dom rfl rfl rfl rfl;have hcells:=OR.GI (P:=P) (β:=β.add h.next ⟨w.heap.size,0,m*size,cc*size,size⟩) (w:=w.drew) (cs:=zeros z m) (cs':=zeros z m) e
  (aW.free (yO hfr m)) (uG (yO hfr m)) rest size
 have hcells:OR P (β.add h.next ⟨w.heap.size,0,m*size,cc*size,size⟩) ⟨w.heap.size,0,m*size,cc*size,size⟩ {w.drew with heap:=w.drew.heap.push (.cells ⟨zeros z m++rest⟩ e)} (.cells (zeros z m)):=by
  rw[hlen,hmul]at hcells;exact hcells
 obtain⟨b1,b2⟩:=hW3.alloc (.cells (zeros z m)) (.cells ⟨zeros z m++rest⟩ e) ⟨w.heap.size,0,m*size,cc*size,size⟩ rfl rfl hcells;refine⟨_,_,_,a3,?_,b1,Lc.trans b2⟩;have hb:=aG.mh β h.next ⟨w.heap.size,0,m*size,cc*size,size⟩
 exact VR.qa (g:=⟨w.heap.size,0,m*size,cc*size,size⟩) hb rfl rfl (bT _) hsp An An a1 (.inr rfl)
variable{args:Array aaB}{x:aaB}
def YX{s:aaB}(ha:args.toList=[s,x])(hc:cop P ⟨dst,.call {callee:=.builtin .append,args,argTypes:=ats},type,pos,after,guard⟩=some c)
 (hr:c.run P ρ h=some (v,h')) (hs:VR β (ρ s) (ρ' s)) (hx:VR β (ρ x) (ρ' x)) (hW:WR P β h w):
 Good P β h w (execOp ρ' ⟨dst,.call {callee:=.builtin .append,args,argTypes:=ats},type,pos,after,guard⟩) v h':=by
 obtain rfl:args= #[s,x]:=B7
 rw[yP];have hm:(#[s,x].map ρ')= #[ρ' s,ρ' x]:=An
 rw[hm];simp only[cop]at hc;split at hc
 .rename_i st xt h0 h1;split at hc
  .rename_i e xd hu hxd;split at hc
   .rename_i size b z hsz hb hz;by_cases hint:∃k,xd=.int k
    .obtain⟨k,rfl⟩:=hint;have hc':c=.Gt e size (b+1) z s x:=by
      exact s5
     subst hc';obtain⟨zv,i,i1,i2,i3,i4,i5⟩:=yN hz;obtain⟨hs1,hs2⟩:=tu hsz;have hzl:z.length=size:=by
      rw[hs1]at i5;simp only[aD]at i5;exact i5.symm
     have hib:i.bytes=b+1:=by rw[i1]at hb;simpa using hb
     simp only[aF.run]at hr;split at hr
     .rename_i n hns hnx;rw[hns]at hs;rw[hnx]at hx;have hs':ρ' s=.slice none 0 0:=by
       generalize ρ' s=q at hs;cases hs;rfl
      have hx':ρ' x=.int .i64 ((n+1:Nat):Int):=by
       generalize ρ' x=q at hx;cases hx;rfl
      rw[hs',hx'];cases hcond:(Nat.ble (Nat.mul (n+1) (b+1)) small&&Nat.ble (Nat.mul (n+1) size) small&&Nat.ble (n+1) small)with
      |false=>rw[hcond]at hr;cases hr
      |true=>
       rw[hcond]at hr;simp only[cond_true,aD,di]at hr;obtain⟨rfl,rfl⟩:=hr;simp only[afD]at hcond;have hfit:=mK hcond.1.1;obtain⟨w',β',v',r1,r2,r3,r4⟩:=YW (ty:=type) h0 h1 hu hxd hs1 hs2 i1 i2 i3 i4 hzl z7 (m:=n+1) z7 (by rw[hib];exact hfit) hW;exact wl
     .cases hr
    have hni:∀k,xd≠.int k:=λk e=>hint ⟨k,e⟩;have hc':c=.append e size (b+1) s x:=by
     split at hc
     .exact absurd rfl (hni _)
     .exact s5
    subst hc';obtain⟨zv,i,i1,i2,i3,i4,i5⟩:=yN hz;obtain⟨hs1,hs2⟩:=tu hsz;have hzl:zv.cells.size=size:=by
     rw[hs1]at i5;simp only[aD]at i5;rw[i3,i5];rfl
    have hib:i.bytes=b+1:=by rw[i1]at hb;simpa using hb
    simp only[aF.run]at hr;split at hr
    .rename_i n hn;split at hr
     .rename_i xs hxs;rw[<- hib]at hr;obtain⟨w',β',v',r1,r2,r3,r4⟩:=YU (ty:=type) h0 h1 hu hxd hni hs1 hs2 i1 i2 hzl z7 hn hxs hr hs hx hW;exact wl
     .cases hr
    .cases hr
   .cases hc
  .cases hc
 .cases hc
def YY{d:aaB}(ha:args.toList=[d,x])(hc:cop P ⟨dst,.call {callee:=.builtin .copy,args,argTypes:=ats},type,pos,after,guard⟩=some c)
 (hr:c.run P ρ h=some (v,h')) (hd:VR β (ρ d) (ρ' d)) (hx:VR β (ρ x) (ρ' x)) (hW:WR P β h w):
 Good P β h w (execOp ρ' ⟨dst,.call {callee:=.builtin .copy,args,argTypes:=ats},type,pos,after,guard⟩) v h':=by
 obtain rfl:args= #[d,x]:=B7
 rw[yP];have hm:(#[d,x].map ρ')= #[ρ' d,ρ' x]:=An
 rw[hm];simp only[cop]at hc;split at hc
 .rename_i dt h0;split at hc
  .rename_i e hu;cases hsz:nG P e with
   |none=>simp[hsz]at hc
   |some size=>
    simp only[hsz,jT,aD]at hc;subst hc;obtain⟨hs1,hs2⟩:=tu hsz;simp only[aF.run]at hr;unfold Qe at hr;split at hr
    .rename_i base oq YZ m hdv hl;simp only at hr;split at hr
     .cases hr
     .rename_i cs hcs;have hn:(cond (Nat.ble m oq) m oq)=Nat.min m oq:=by
       cases hb:Nat.ble m oq with
       |true=>have:=mK hb;show m=min m oq;omega
       |false=>
        have:¬m<=oq:=λhh=>by rw[F9 hh]at hb;cases hb
        show oq=min m oq;omega
      rw[hn]at hr hcs;obtain⟨cs',x1,x2,x3,x4,x5⟩:=GN hcs hl (Nat.min_le_left _ _) hx hW;rw[hdv]at hd;have hmn:m.min oq=min m oq:=rfl;split at hr
      .rename_i i o f;split at hr
       .rename_i h2 hst;simp only[aD,di]at hr;obtain⟨rfl,rfl⟩:=hr;obtain⟨g,a,c',hg,hd',ha1,ha2,hnc,hcc,hoff,_⟩:=hd.nT;have Ej:cs=[]\/(a.off=g.off+o/\a.spot=none):=by
         rcases hoff with hh|hh
         .left;have h00:m.min oq=0:=by rw[hmn];omega
          rw[h00]at x3;rw[<- jy,x3];simp
         .exact .inr hh
        obtain⟨w',p1,p2,p3⟩:=Lb (d:=0) hW hg ha1 Ej hst x1 x2;have p1:=p1 0 rfl;have hadd:a.add 0=a:=by
         simp[Addr.add]
        rw[hadd]at p1;refine⟨.value (goInt (m.min oq)),w',β,_,?_,.inl rfl,.int _ _,p2,p3⟩;simp only[builtin];refine xq ?_;simp only[Builtin.copy_,h0,Ki,zQ,qZ,hd',dG,fJ hu,dJ,x4,mP hs1,x5 w rfl,p1,fw]
       .cases hr
      .split at hr
       .rename_i hn0;simp only[aD,di]at hr;obtain⟨rfl,rfl⟩:=hr;have hd':ρ' d=.slice none oq YZ:=by generalize ρ' d=y at hd;cases hd;rfl
        refine Good.same hW (v':=goInt (m.min oq)) ?_ (by rw[hn0];exact .int _ _);simp only[builtin];refine xq ?_;simp only[Builtin.copy_,h0,Ki,zQ,qZ,hd',dG,fJ hu,dJ,x4,mP hs1,x5 w rfl,fw]
       .cases hr
    .cases hr
  .cases hc
 .cases hc
def Y0(ha:args.toList=[x])(hc:cop P ⟨dst,.call {callee:=.builtin .clear,args,argTypes:=ats},type,pos,after,guard⟩=some c)
 (hr:c.run P ρ h=some (v,h')) (hx:VR β (ρ x) (ρ' x)) (hW:WR P β h w):
 Good P β h w (execOp ρ' ⟨dst,.call {callee:=.builtin .clear,args,argTypes:=ats},type,pos,after,guard⟩) v h':=by
 obtain rfl:args= #[x]:=B7
 rw[yP];have hm:(#[x].map ρ')= #[ρ' x]:=An
 rw[hm];simp only[cop]at hc;split at hc
 .rename_i t h0;split at hc
  .rename_i e hu;split at hc
   .rename_i z zs hz;simp only[aD]at hc;subst hc;obtain⟨zv,i,hi,hzv,hzc,hfr,_⟩:=yN hz;simp only[aF.run]at hr;split at hr
    .rename_i j o f n c hxv;split at hr
     .rename_i h2 hst;simp only[aD,di]at hr;obtain⟨rfl,rfl⟩:=hr;rw[hxv]at hx;obtain⟨g,a,c',hg,hx',ha1,ha2,hnc,hcc,hoff,_⟩:=hx.nT;have Ej:zeros (z::zs) (n+1)=[]\/(a.off=g.off+o/\a.spot=none):=by
       rcases hoff with hh|hh
       .omega
       .exact .inr hh
      obtain⟨w',p1,p2,p3⟩:=Lb (d:=0) hW hg ha1 Ej hst (aW.free (yO hfr (n+1))) (uG (yO hfr (n+1)));have p1:=p1 0 rfl;have hadd:a.add 0=a:=by
       simp[Addr.add]
      rw[hadd]at p1;have hrow:(Builtin.zeroCells zv.cells (n+1)).toList=zeros (z::zs) (n+1):=by
       unfold Builtin.zeroCells;rw[hzc];have:=GL (z::zs) (n+1) An;rw[show(⟨z::zs⟩:Array vI).size=(z::zs).length from rfl]at *;rw[this]
      refine⟨.value (.tuple #[]),w',β,_,?_,.inl rfl,.dU _,p2,p3⟩;simp only[builtin];refine xq ?_;simp only[Builtin.clear_,h0,Ki,zQ,hx',dG,fJ hu,dJ,zeroValue,typeInfo,hi,hzv,run_program,fw,hrow,p1]
     .cases hr
    .rename_i base c hxv;simp only[aD,di]at hr;obtain⟨rfl,rfl⟩:=hr;rw[hxv]at hx;have hx':∃base' c',ρ' x=.slice base' 0 c':=by
      generalize ρ' x=y at hx;cases hx<;>exact⟨_,_,rfl⟩
     obtain⟨base',c',hx'⟩:=hx';refine Good.same hW (v':=.tuple #[]) ?_ (.dU _);simp only[builtin];refine xq ?_;cases base'<;>simp only[Builtin.clear_,h0,Ki,zQ,hx',dG,fJ hu,dJ,fw]
    .cases hr
   .cases hc
  .cases hc
 .cases hc
end
end Go.Ideal
namespace Go.Ideal
variable {P:Program} {β:aG} {h:IH} {w:World}
variable{v:vI}{h':IH}
def QL{x:x8 ((Nat->vI)×dN)}(hr:rC x h=some (v,h')):∃f ob,x=some (f,ob)/\v=f h.next/\h'=h.new ob:=by
 unfold rC at hr;split at hr
 .rename_i f o;simp only[aD,di]at hr;exact⟨f,o,rfl,hr.1.symm,hr.2.symm⟩
 .cases hr
def aF.makes:aF->Bool
 | .new .. | .box .. | .wU .. | .vN| .zV .. =>true
 |_=>false
variable{c:aF}
def aF.QM(hm:c.makes=true)(ρ:aaB->vI)(h:IH):c.run P ρ h=rC (c.alloc ρ) h:=by
 cases c<;>first|rfl|cases hm
variable{o:Oper}{ρ ρ':aaB->vI}
def QN{f:Nat->vI}{ob:dN}(hm:c.makes=true)(hc:cop P o=some c)(hρ:∀x∈o.op.operands,VR β (ρ x) (ρ' x))(ha:c.alloc ρ=some (f,ob)):uI P β w (execOp ρ' o) f ob:=by
 obtain⟨dst,op,type,pos,after,guard⟩:=o;cases op
 case alloc e=>exact X0 hc ha
 case box e x=>exact X3 hc ha (hρ x AF)
 case buildSlice t n ps=>exact X8 hc ha λp hp=>hρ p.2 C5
 case makeMap t r=>exact X4 hc ha
 case makeSlice t l k=>exact X6 hc ha (hρ l AF) (hρ k AF)
 case next it s=>
  cases s with
  |true=>simp[cop]at hc
  |false=>simp only[cop,aD]at hc;subst hc;cases hm
 all_goals
  exfalso
  revert hm;simp only[cop]at hc;repeat' split at hc
  all_goals first
   |contradiction
   |(cases hc;done)
   |(simp only[aD,kg,reduceCtorEq,false_and,and_false,exists_false]at hc;done)
   |(simp only[aD]at hc;subst hc;intro hm;cases hm)
   |(simp only[kg]at hc;obtain⟨_,_,rfl⟩:=hc;intro hm;cases hm)
def QO(hc:cop P o=some c)(hρ:∀x∈o.op.operands,VR β (ρ x) (ρ' x))(hr:c.run P ρ h=some (v,h'))(hW:WR P β h w):
 Good P β h w (execOp ρ' o) v h':=by
 by_cases hm:c.makes=true
 .rw[aF.QM hm]at hr;obtain⟨f,ob,ha,rfl,rfl⟩:=QL hr;exact(QN hm hc hρ ha).good hW
 obtain⟨dst,op,type,pos,after,guard⟩:=o;cases op
 case move x=>exact X9 hc hr (hρ x AF) hW
 case assign x=>exact Ya hc hr (hρ x AF) hW
 case pick x y z=>exact Yb hc hr (hρ x AF) (hρ y AF) (hρ z AF) hW
 case build t ps=>exact Yd hc hr (λp hp=>hρ p.2 C5) hW
 case load t a=>exact Ye hc hr (hρ a AF) hW
 case store t a x=>exact Yf hc hr (hρ a AF) (hρ x AF) hW
 case nilCheck x=>exact Yg hc hr (hρ x AF) hW
 case binOp op t x y yt=>exact Yj hc hr (hρ x AF) (hρ y AF) hW
 case unOp op t x=>exact Yk hc hr (hρ x AF) hW
 case convert s d x=>exact YK hc hr (hρ x AF) hW
 case makeInterface t x=>exact Yl hc hr (hρ x AF) hW
 case makeFunc fn first captured=>exact Ym hc hr (λx hx=>hρ x KB) (λx hx=>hρ x KK) hW
 case slice t x lo hi mx=>exact Yt hc hr (hρ x AF) (λy hy=>hρ y BE) (λy hy=>hρ y BE) (λy hy=>hρ y BE) hW
 case fieldAddr s x f=>exact Yo hc hr (hρ x AF) hW
 case field t x f=>exact Yp hc hr (hρ x AF) hW
 case indexAddr t x y=>exact Yq hc hr (hρ x AF) (hρ y AF) hW
 case index t x y=>exact YM hc hr (hρ x AF) (hρ y AF) hW
 case lookup t m k ok=>exact Yz hc hr (hρ m AF) (hρ k AF) hW
 case mapUpdate t m k x=>exact YB hc hr (hρ m AF) (hρ k AF) (hρ x AF) hW
 case insert t m k x=>exact YC hc hr (hρ m AF) (hρ k AF) (hρ x AF) hW
 case range t x=>exact YD hc hr (hρ x AF) hW
 case entry x=>exact YE hc hr (hρ x AF) hW
 case typeAssert x xt t ok=>exact YF hc hr (hρ x AF) hW
 case extract x i=>exact Yr hc hr (hρ x AF) hW
 case next it s=>
  cases s with
  |true=>simp[cop]at hc
  |false=>simp only[cop,aD]at hc;subst hc;cases hr
 case panic x=>simp only[cop,aD]at hc;subst hc;cases hr
 case defer cl=>
  obtain⟨callee,args,ats⟩:=cl;cases callee with
  |value f=>simp only[cop,aD]at hc;subst hc;cases hr
  |invoke x n=>simp[cop]at hc
  |builtin b=>simp[cop]at hc
 case call cl=>
  obtain⟨callee,args,ats⟩:=cl;cases callee with
  |value f=>simp only[cop,aD]at hc;subst hc;cases hr
  |invoke x n=>simp only[cop,aD]at hc;subst hc;cases hr
  |builtin b=>
   have hargs:∀x∈args.toList,VR β (ρ x) (ρ' x):=λx hx=>hρ x Kp;cases b
   case append=>
    cases ha:args.toList with
    |nil=>simp[cop,ha]at hc
    |cons s r=>cases r with
     |nil=>simp[cop,ha]at hc
     |cons x r=>cases r with
      |nil=>exact YX ha hc hr (hargs s Bm) (hargs x Bm) hW
      |cons y r=>simp[cop,ha]at hc
   case copy=>
    cases ha:args.toList with
    |nil=>simp[cop,ha]at hc
    |cons s r=>cases r with
     |nil=>simp[cop,ha]at hc
     |cons x r=>cases r with
      |nil=>exact YY ha hc hr (hargs s Bm) (hargs x Bm) hW
      |cons y r=>simp[cop,ha]at hc
   case clear=>
    cases ha:args.toList with
    |nil=>simp[cop,ha]at hc
    |cons s r=>cases r with
     |nil=>exact Y0 ha hc hr (hargs s Bm) hW
     |cons y r=>simp[cop,ha]at hc
   case len=>
    cases ha:args.toList with
    |nil=>simp[cop,ha]at hc
    |cons s r=>cases r with
     |nil=>exact YN ha hc hr (hargs s Bm) hW
     |cons y r=>simp[cop,ha]at hc
   case cap=>
    cases ha:args.toList with
    |nil=>simp[cop,ha]at hc
    |cons s r=>cases r with
     |nil=>exact YO ha hc hr (hargs s Bm) hW
     |cons y r=>simp[cop,ha]at hc
   case min=>exact QK (.inl rfl) hc hr hargs hW
   case max=>exact QK (.inr rfl) hc hr hargs hW
   case recover=>simp only[cop,aD]at hc;subst hc;cases hr
   case panic=>
    cases ha:args.toList with
    |nil=>simp[cop,ha]at hc
    |cons s r=>cases r with
     |nil=>simp only[cop,ha,aD]at hc;subst hc;cases hr
     |cons y r=>simp[cop,ha]at hc
   all_goals (simp[cop]at hc)
 all_goals
  exfalso
  first
   |(simp[cop]at hc;done)
   |(apply hm
     simp only[cop]at hc;repeat' split at hc
     all_goals first
      |contradiction
      |(cases hc;done)
      |(simp only[aD]at hc;subst hc;rfl)
      |(simp only[kg]at hc;obtain⟨_,_,rfl⟩:=hc;rfl))
end Go.Ideal
namespace Go.Ideal
variable {P:Program} {β:aG} {h:IH} {w:World}
inductive ow(β:aG):List PanicEntry->List PanicEntry->Prop
 |nil:ow β [] []
 |cons {e e':PanicEntry} {l l':List PanicEntry} (hv:VR β e.v e'.v) (hr:e'.recovered=e.recovered) (hg:e'.goexit=e.goexit) (hl:ow β l l'):ow β (e::l) (e'::l')
variable{β':aG}
def ow.mono{β:aG}(h:β.le β'){l l':kI PanicEntry}(k:ow β l l'):ow β' l l':=by
 induction k with
 |nil=>exact .nil
 |cons hv hr hg _ ih=>exact .cons (hv.mono h) hr hg ih
def ow.append{l l' r r':kI PanicEntry}(k:ow β l l')(k2:ow β r r'):ow β (l++r) (l'++r'):=by
 induction k with
 |nil=>exact k2
 |cons hv hr hg _ ih=>exact .cons hv hr hg ih
inductive MR(β:aG):FrameMode->FrameMode->Prop
 |run:MR β .run .run
 |returning:MR β .returning .returning
 |panicking {l l':List PanicEntry} (h:ow β l l'):MR β (.panicking l) (.panicking l')
def MR.mono{β:aG}(h:β.le β'){m m':FrameMode}(k:MR β m m'):MR β' m m':=by
 cases k with
 |run=>exact .run
 |returning=>exact .returning
 |panicking k=>exact .panicking (k.mono h)
inductive tH(β:aG):List Deferred->List Deferred->Prop
 |nil:tH β [] []
 |fn {fn fn':Fn} {c c' a a':List Value} {l l':List Deferred} (hf:FR β fn fn') (hc:aW β c c') (ha:aW β a a') (hl:tH β l l'):tH β ({target:=.fn fn ⟨c⟩,args:=⟨a⟩}::l) ({target:=.fn fn' ⟨c'⟩,args:=⟨a'⟩}::l')
 |coll {r:Nat} {g:iJ} {a a':Array Value} {l l':List Deferred} (hr:β r=some g) (hl:tH β l l'):tH β ({target:=.collected r,args:=a}::l) ({target:=.collected g.b,args:=a'}::l')
def tH.mono{β:aG}(h:β.le β'){l l':kI Deferred}(k:tH β l l'):tH β' l l':=by
 induction k with
 |nil=>exact .nil
 |fn hf hc ha _ ih=>exact .fn (hf.mono h) (hc.mono h) (ha.mono h) ih
 |coll hr _ ih=>exact .coll (h _ _ hr) ih
structure AR(β:aG)(X:Nat->Prop)(a:aV)(tm:Array Value)(df:List Deferred):Prop where
 size:tm.size=a.n
 tmps:∀i,¬X i->VR β (dL a.tmps i) (tm.getD i undef)
 out:∀i,a.n<=i->dL a.tmps i=dU
 defers:tH β a.defers df
def none':Nat->Prop:=λ_=>False
def AR.mono{β:aG}(h:β.le β'){X:Nat->Prop}{a:aV}{tm:Array vI}{df:kI Deferred}(k:AR β X a tm df):AR β' X a tm df:=
 ⟨k.size,λi hi=>(k.tmps i hi).mono h,k.out,k.defers.mono h⟩
def Y1(P:Program)(g:Nat):Nat:=((P.globals[g]?).map λx=>P.cellsOf x.type).getD 0
def kL(P:Program)(β:aG):Prop:=∀g,g<P.globals.size->∃i,β g=some i/\i.b=g/\i.off=0/\i.top=Y1 P g
variable{X:Nat->Prop}{a:aV}{tm:Array vI}{df:kI Deferred}
def AR.eval{gy:kI Deferred}(k:AR β X a tm df)(hG:kL P β){x:aaB}(hok:z8 P x=true)(hx:∀t,x=.tmp t->¬X t):VR β (a.eval x) (Act.eval ⟨tm,gy⟩ x):=by
 cases x with
 |tmp t=>exact k.tmps t (hx t rfl)
 |const v=>
  show VR β v v;unfold z8 at hok;split at hok
  .rename_i he;simp only[Operand.const.injEq]at he;subst he;exact .dU _
  .rename_i he;simp only[Operand.const.injEq]at he;subst he;exact VR.free hok
  .rename_i he;cases he
  .rename_i h1 h2 h3;exact absurd rfl (h2 v)
 |global g=>
  have hlt:g<P.globals.size:=by
   have:Nat.blt g P.globals.size=true:=hok;simpa[sJ]using this
  obtain⟨i,hi,h1,h2,_⟩:=hG g hlt;have:=VR.ptr (β:=β) (o:=0) hi;rw[h1,h2]at this;exact this
 |func f=>exact .func (.func f) .nil .nil
def GQ(tm:Array vI)(d:Nat)(v:vI)(j:Nat)(hd:d<tm.size):(tm.setIfInBounds d v).getD j undef=if j=d then v else tm.getD j undef:=by
 simp only[sM,XG];by_cases h:d=j
 .subst h;simp[hd]
 .simp[h,Ne.symm h]
def AR.put(k:AR β X a tm df)(d:x8 Tmp){v v':vI}(hv:VR β v v'):
 AR β (λi=>X i/\d≠some i) (a.put d v) (match d with|some d=>tm.setIfInBounds d v'|none=>tm) df:=by
 cases d with
 |none=>exact⟨k.size,λi hi=>k.tmps i λhx=>hi ⟨hx,An⟩,k.out,k.defers⟩
 |some d=>
  show AR β _ (a.set d v) _ df;unfold aV.set;cases hb:Nat.blt d a.n with
  |false=>
   have hge:a.n<=d:=by
    rcases rq d a.n with hh|hh
    .have:Nat.blt d a.n=true:=by simpa[sJ]using hh
     rw[this]at hb;cases hb
    .exact hh
   have hs:=k.size;have he:tm.setIfInBounds d v'=tm:=by
    apply Array.ext_getElem?;intro j;rw[XG];split
    .rename_i e;subst e;rw[if_neg z7,uo z7]
    .rfl
   simp only[cond_false];rw[he];refine⟨hs,λi hi=>?_,k.out,k.defers⟩;by_cases hx:X i
   .have hid:i=d:=by
     rcases Nat.decEq d i with hne|he
     .exact absurd ⟨hx,by simpa using hne⟩ hi
     .exact he.symm
    subst hid;rw[k.out i hge];exact .dU _
   .exact k.tmps i hx
  |true=>
   have hlt: @LT.lt Nat _ d a.n:=Bk
   have hs:=k.size;simp only[cond_true];refine⟨by simpa using hs,λi hi=>?_,λi hi=>?_,k.defers⟩
   rotate_left
   .show dL (a.tmps.set d (some v)) i=dU;rw[BZ,if_neg (by have:a.n<=i:=hi;omega)];exact k.out i hi
   show VR β (dL (a.tmps.set d (some v)) i) _;rw[BZ,GQ tm d v' i z7];by_cases hid:i=d
   .rw[if_pos hid,if_pos hid];exact hv
   .rw[if_neg hid,if_neg hid];exact k.tmps i λhx=>hi ⟨hx,by simp[Ne.symm hid]⟩
end Go.Ideal
namespace Go.Ideal
variable {P:Program} {β:aG} {h:IH} {w:World}
def fr(b:Frame)(tm:Array vI)(df:kI Deferred)(todo:kI Item):Frame:={b with tmps:=tm,todo:=todo,defers:=df,mode:=.run}
section
variable {b:Frame} {tm:Array vI} {df:kI Deferred} {k:kI Item} {cs:kI Frame}
def QR(todo:kI Item):(fr b tm df todo).eval=Act.eval ⟨tm,df⟩:=funext λx=>by cases x<;>rfl
def Y2:step P (lone (fr b tm df (.code .skip::k)) cs w)=.next (lone (fr b tm df k) cs w):=step_lone_go AT
def Y3{l:Nat}:step P (lone (fr b tm df (.code (.label l)::k)) cs w)=.next (lone (fr b tm df k) cs w):=step_lone_go AT
variable{id:Nat}
def Y4:step P (lone (fr b tm df (.inBlock id::k)) cs w)=.next (lone (fr b tm df k) cs w):=step_lone_go AT
variable{c:Code}
def Y5:step P (lone (fr b tm df (.inScope c::k)) cs w)=.next (lone (fr b tm df k) cs w):=step_lone_go AT
variable{x y:Code}
def GR:step P (lone (fr b tm df (.code (.seq x y)::k)) cs w)=.next (lone (fr b tm df (.code x::.code y::k)) cs w):=step_lone_go AT
def En:step P (lone (fr b tm df (.code (.block id c)::k)) cs w)=.next (lone (fr b tm df (.code c::.inBlock id::k)) cs w):=step_lone_go AT
def Y6:step P (lone (fr b tm df (.code (.loop c)::k)) cs w)=.next (lone (fr b tm df (.code c::.inLoop c::k)) cs w):=step_lone_go AT
def Y7:step P (lone (fr b tm df (.inLoop c::k)) cs w)=.next (lone (fr b tm df (.code c::.inLoop c::k)) cs w):=step_lone_go AT
def GU:step P (lone (fr b tm df (.code (.scope c)::k)) cs w)=.next (lone (fr b tm df (.code c::.inScope c::k)) cs w):=step_lone_go AT
def Y8{c:aaB}{t:Bool}(h:Act.eval ⟨tm,df⟩ c=.bool t):
 step P (lone (fr b tm df (.code (.cond c x y)::k)) cs w)=.next (lone (fr b tm df (.code (if t then x else y)::k)) cs w):=
 step_lone_go (by
  have he:=congrFun (QR (b:=b) (tm:=tm) (df:=df) (.code (.cond c x y)::k)) c;rw[h]at he;simp only[fr]at he;simp[stepG,stepG.exec,fr,he])
def Y9{k':kI Item}(h:exitTo id k=some k'):step P (lone (fr b tm df (.code (.exit id)::k)) cs w)=.next (lone (fr b tm df k') cs w):=
 step_lone_go (by simp[stepG,stepG.exec,fr,h])
def Za(hr:b.roundOf=none):step P (lone (fr b tm df (.code .ret::k)) cs w)=.next (lone {fr b tm df (.code .ret::k)with mode:=.returning} cs w):=
 step_lone_go HH
def Zb(hr:b.roundOf=none):step P (lone (fr b tm df []) cs w)=.next (lone {fr b tm df []with mode:=.returning} cs w):=
 step_lone_go HH
variable{ops:Array Oper}
def Zc:step P (lone (fr b tm df (.code (.region id ops false)::k)) cs w)=.next (lone (fr b tm df (.inRegion ops (List.range ops.size)::k)) cs w):=
 step_lone_go AT
def Zd:step P (lone (fr b tm df (.code (.region id ops true)::k)) cs w)=
 .next (lone (fr b tm df (.inRegion ops (Region.schedule (P.follows .mixedOrders) ops (w.tape w.drawn (.order b.fn id)))::k)) cs {w with drawn:=w.drawn+1}):=
 step_lone_go (by simp[stepG,stepG.exec,fr,choose,Sem.run,Question.forced,Question.cut])
def Ze:step P (lone (fr b tm df (.inRegion ops []::k)) cs w)=.next (lone (fr b tm df k) cs w):=
 step_lone_go AT
def o8(tm:Array vI)(d:x8 Tmp)(v:vI):Array vI:=match d with|some d=>tm.setIfInBounds d v|none=>tm
variable{i:Nat}{rest:kI Nat}
def Eo{v:vI}:(fr b tm df (.inRegion ops (i::rest)::k)).finish v=fr b (o8 tm ((ops[i]?).bind (·.dst)) v) df (.inRegion ops rest::k):=by
 cases hd:(ops[i]?).bind (·.dst)<;>simp[Frame.finish,fr,o8,hd]
def QS(hn:((ops[i]?).map (Region.wanted · (yielded ops tm))).getD false=false):
 step P (lone (fr b tm df (.inRegion ops (i::rest)::k)) cs w)=.next (lone (fr b (o8 tm ((ops[i]?).bind (·.dst)) undef) df (.inRegion ops rest::k)) cs w):=by
 rw[<- Eo];exact step_lone_go (by
  have h':=hn;simp only[fr]at *;simp[stepG,stepG.exec,h'])
variable{o:Oper}
def Ao(ho:ops[i]? =some o)(hw:Region.wanted o (yielded ops tm)=true)(hd:b.roundOf=none\/∀c,o.op≠.defer c):
 stepG P true {frame:=fr b tm df (.inRegion ops (i::rest)::k),callers:=cs,status:=.running,dying:=none} w=
  stepG.apply P true (fr b tm df (.inRegion ops (i::rest)::k)) cs none (execOp (Act.eval ⟨tm,df⟩) o) w:=by
 have he:=QR (b:=b) (tm:=tm) (df:=df) (.inRegion ops (i::rest)::k);simp only[fr]at he;simp only[stepG,fr,stepG.exec,ho,jT,hw,wQ,if_true,stepG.oper,Frame.oper?,he];split
 .rename_i l c hr hc;rcases hd with hd|hd
  .rw[hd]at hr;cases hr
  .exact absurd hc (hd c)
 .rfl
def GV(ho:ops[i]? =some o)(hw:Region.wanted o (yielded ops tm)=true)(hd:b.roundOf=none\/∀c,o.op≠.defer c){r:Next}{v:vI}{w':World}
 (hr:(execOp (Act.eval ⟨tm,df⟩) o).run P w=.ok r w') (hv:r=.value v\/(r=.skip/\v=undef)):
 step P (lone (fr b tm df (.inRegion ops (i::rest)::k)) cs w)=.next (lone (fr b (o8 tm o.dst v) df (.inRegion ops rest::k)) cs w'):=by
 have hf:=Eo (b:=b) (tm:=tm) (df:=df) (k:=k) (ops:=ops) (i:=i) (rest:=rest) (v:=v);rw[ho]at hf;simp only[iX]at hf;rw[<- hf];refine step_lone_go ?_;rw[Ao ho hw hd];rcases hv with rfl|⟨rfl,rfl⟩<;>simp[stepG.apply,hr]
def Zf(ho:ops[i]? =some o)(hw:Region.wanted o (yielded ops tm)=true)(hd:b.roundOf=none\/∀c,o.op≠.defer c){f:agR}{args:Array vI}{w':World}
 (hr:(execOp (Act.eval ⟨tm,df⟩) o).run P w=.ok (.enter f args) w'):
 step P (lone (fr b tm df (.inRegion ops (i::rest)::k)) cs w)=.next (lone (Frame.enter P f args .normal) (fr b tm df (.inRegion ops (i::rest)::k)::cs) w'):=by
 refine step_lone_go ?_;rw[Ao ho hw hd];simp[stepG.apply,hr,fr]
def Zg(ho:ops[i]? =some o)(hw:Region.wanted o (yielded ops tm)=true)(hd:b.roundOf=none\/∀c,o.op≠.defer c){l:Nat}{f:agR}{tmps:Array vI}{x y:Code}{w':World}
 (hr:(execOp (Act.eval ⟨tm,df⟩) o).run P w=.ok (.round l f tmps x y) w'):
 step P (lone (fr b tm df (.inRegion ops (i::rest)::k)) cs w)=.next (lone (Frame.round l f tmps x y .normal) (fr b tm df (.inRegion ops (i::rest)::k)::cs) w'):=by
 refine step_lone_go ?_;rw[Ao ho hw hd];simp[stepG.apply,hr,fr]
def Zh(ho:ops[i]? =some o)(hw:Region.wanted o (yielded ops tm)=true)(hd:b.roundOf=none\/∀c,o.op≠.defer c){v:vI}{w':World}
 (hr:(execOp (Act.eval ⟨tm,df⟩) o).run P w=.halt (.panic v) w'):
 step P (lone (fr b tm df (.inRegion ops (i::rest)::k)) cs w)=.next (lone {fr b tm df (.inRegion ops (i::rest)::k)with mode:=.panicking [{v,recovered:=false}]} cs w'):=by
 refine step_lone_go ?_;rw[Ao ho hw hd];simp[stepG.apply,hr,fr,Frame.raise]
def Zi(ho:ops[i]? =some o)(hw:Region.wanted o (yielded ops tm)=true)(hro:b.roundOf=none){d:Deferred}{w':World}
 (hr:(execOp (Act.eval ⟨tm,df⟩) o).run P w=.ok (.defer d) w'):
 step P (lone (fr b tm df (.inRegion ops (i::rest)::k)) cs w)=.next (lone (fr b (o8 tm o.dst undef) (d::df) (.inRegion ops rest::k)) cs w'):=by
 have hf:=Eo (b:=b) (tm:=tm) (df:=d::df) (k:=k) (ops:=ops) (i:=i) (rest:=rest) (v:=undef);rw[ho]at hf;simp only[iX]at hf;rw[<- hf];refine step_lone_go ?_;rw[Ao ho hw (.inl hro)];simp[stepG.apply,hr,fr]
def QT(ho:ops[i]? =some o)(hw:Region.wanted o (yielded ops tm)=true)(hro:b.roundOf=none){w':World}
 (hr:(execOp (Act.eval ⟨tm,df⟩) o).run P w=.ok .recover w'):
 step P (lone (fr b tm df (.inRegion ops (i::rest)::k)) cs w)=match tryRecover (fr b tm df (.inRegion ops (i::rest)::k)) cs with
  |some (v,cs')=>.next (lone (fr b (o8 tm o.dst v) df (.inRegion ops rest::k)) cs' w')
  |none=>.next (lone (fr b (o8 tm o.dst .nilIface) df (.inRegion ops rest::k)) cs w'):=by
 have hf:=λv=>Eo (b:=b) (tm:=tm) (df:=df) (k:=k) (ops:=ops) (i:=i) (rest:=rest) (v:=v);rw[ho]at hf;simp only[iX]at hf;have hre:(fr b tm df (.inRegion ops (i::rest)::k)).roundOf=none:=hro;cases ht:tryRecover (fr b tm df (.inRegion ops (i::rest)::k)) cs with
 |none=>
  exact qv
 |some p=>
  obtain⟨v,cs'⟩:=p;exact qv
end
end Go.Ideal
namespace Go.Ideal
variable {P:Program}
variable{ρ:aaB->vI}{h:IH}{c:aF}{v:vI}
def QU{h':IH}(hl:heavy c=false)(hm:c.makes=false)(hr:c.run P ρ h=some (v,h')):h'=h:=by
 cases c<;>first|(cases hl;done)|(cases hm;done)|skip
 all_goals
  simp only[aF.run,Bool.cond_eq_ite]at hr;repeat' split at hr
  all_goals first
   |(cases hr;done)
   |(simp only[aD,di]at hr;exact hr.2.symm)
variable{h2:IH}
def QV{m:vI}(hs:∀i o,h.get i=some o->h2.get i=some o){es:kI MapEntry}(he:entriesOf m h=some es):entriesOf m h2=some es:=by
 unfold entriesOf at he⊢;split at he
 .exact he
 .rename_i i;split at he
  .rename_i es1 c hg;simp only[hs _ _ hg];exact he
  .cases he
 .cases he
def Zj(hl:heavy c=false)(hm:c.makes=false)(hs:∀i o,h.get i=some o->h2.get i=some o)(hr:c.run P ρ h=some (v,h)):c.run P ρ h2=some (v,h2):=by
 cases c<;>first|(cases hl;done)|(cases hm;done)|skip
 case ah2 a=>
  simp only[aF.run]at hr⊢;split at hr
  .split at hr
   .rename_i u hu;simp only[aD,di,yC]at hr;simp only[XX hs hu,hr]
   .cases hr
  .cases hr
 case pW n a=>
  simp only[aF.run]at hr⊢;split at hr
  .split at hr
   .rename_i cs hg;simp only[Qs hs hg];exact p0
   .cases hr
  .cases hr
 case Gq a=>
  simp only[aF.run]at hr⊢;split at hr
  .exact p0
  .split at hr
   .rename_i cs hg;simp only[Qs hs hg];split at hr
    .rename_i bs hb;simp only[aD,di,yC]at hr;simp only[hb,hr]
    .cases hr
   .cases hr
  .cases hr
 case lookup kt z m k ok=>
  simp only[aF.run,zZ]at hr⊢;split at hr
  .rename_i u hu;split at hu
   .cases hu
   .rename_i es hes;simp only[QV hs hes];simp only[aD,di,yC]at hr;rw[hu];simp only[hr]
  .cases hr
 case entry x=>
  simp only[aF.run]at hr⊢;split at hr
  .split at hr
   .rename_i m since seen stepped hg;simp only[hs _ _ hg];split at hr
    .rename_i es clock hgm;simp only[hs _ _ hgm];split at hr
     .rename_i stamp hst;cases hb:Nat.beq clock stepped with
      |false=>rw[hb]at hr;cases hr
      |true=>
       rw[hb]at hr;simp only[cond_true]at hr⊢;split at hr
       .rename_i e he;exact p0
       .cases hr
     .cases hr
    .cases hr
   .cases hr
  .cases hr
 case Gv x=>
  simp only[aF.run]at hr⊢;split at hr
  .rename_i es hes;simp only[QV hs hes];exact p0
  .cases hr
 all_goals
  simp only[aF.run,Bool.cond_eq_ite]at hr⊢;repeat' split at hr
  all_goals first
   |(cases hr;done)
   |(simp only[aD,di,yC]at hr;subst hr;simp_all;done)
   |skip
def Zk(hl:∀i o,h.get i=some o->i<h.next)(ob:dN):∀i o,h.get i=some o->(h.new ob).get i=some o:=λi o hi=>by
 rw[IH.jc,if_neg (by have:=hl i o hi;omega)];exact hi
def Zl(hl:heavy c=false)(hm:c.makes=false)(hp:BP c=false)(hr:c.run P ρ h=some (v,h))(h2:IH):c.run P ρ h2=some (v,h2):=by
 cases c<;>first|(cases hl;done)|(cases hm;done)|(cases hp;done)|skip
 all_goals
  simp only[aF.run,Bool.cond_eq_ite]at hr⊢;repeat' split at hr
  all_goals first
   |(cases hr;done)
   |(simp only[aD,di,yC]at hr;subst hr;simp_all;done)
   |skip
variable{ρ':aaB->vI}
def Ld:∀(parts:kI (Nat×Nat×aaB)) (z:kI vI),(∀p∈parts,ρ p.2.2=ρ' p.2.2)->rA ρ z parts=rA ρ' z parts:=by
 intro parts;induction parts with
 |nil=>intro z _;rfl
 |cons p parts ih=>
  intro z hp;obtain⟨off,size,x⟩:=p;rw[KS,KS,hp (off,size,x) An];cases cellsOf (ρ' x)with
  |none=>rfl
  |some vs=>
   simp only;split
   .cases jV z off vs with
    |none=>rfl
    |some cs=>exact ih cs λq hq=>hp q (by simp[hq])
   .rfl
def Lf(l:kI aaB)(hp:∀x∈l,ρ x=ρ' x):lN ρ l=lN ρ' l:=by
 rw[vQ,vQ];exact sN hp
def Zm{fs:Array Field}:∀(l:kI (Nat×aaB)) (pc:kI (Nat×Nat×aaB)),yH P fs l=some pc->∀q∈pc,∃p∈l,q.2.2=p.2:=by
 intro l;induction l with
 |nil=>intro pc h q hq;simp only[yH,aD]at h;subst h;simp at hq
 |cons p l ih=>
  intro pc h q hq;obtain⟨i,x⟩:=p;simp only[yH]at h;split at h
  .rename_i f r hf hr;split at h
   .rename_i s hs;simp only[aD]at h;subst h;rcases dx.1 hq with rfl|hq
    .exact⟨(i,x),An,rfl⟩
    .obtain⟨p,hp,he⟩:=ih r hr q hq;exact⟨p,by simp[hp],he⟩
   .cases h
  .cases h
def Lg(x:x8 aaB)(h:∀y,x=some y->ρ y=ρ' y):jm ρ x=jm ρ' x:=by
 cases x with
 |none=>rfl
 |some y=>simp[jm,h y rfl]
def Ci{o:Oper}(hc:cop P o=some c)(hρ:∀x∈o.op.operands,ρ x=ρ' x)(h:IH):c.run P ρ h=c.run P ρ' h/\c.alloc ρ=c.alloc ρ':=by
 obtain⟨dst,op,type,pos,after,guard⟩:=o;cases op
 case build t ps=>
  have hp:∀p∈ps.toList,ρ p.2=ρ' p.2:=λp hp=>hρ p.2 C5;simp only[cop]at hc;split at hc
  .rename_i fs z _ _;split at hc
   .rename_i pc hpc;simp only[aD]at hc;subst hc;refine⟨?_,rfl⟩;simp only[aF.run];unfold placesOf at hpc;split at hpc
    .have hq2:∀q∈pc,ρ q.2.2=ρ' q.2.2:=λq hq=>by
      obtain⟨p,h1,h2⟩:=Zm _ _ hpc q hq;have:=hp p h1;rw[<- h2]at this;exact this
     rw[Ld pc z hq2]
    .cases hpc
   .cases hc
  .split at hc
   .rename_i s _;simp only[aD]at hc;subst hc;refine⟨?_,rfl⟩;simp only[aF.run];rw[Ld _ _ λq hq=>by obtain⟨p,h1,rfl⟩:=eT.1 hq;exact hp p h1]
   .cases hc
  .cases hc
 case buildSlice t n ps=>
  have hp:∀p∈ps.toList,ρ p.2=ρ' p.2:=λp hp=>hρ p.2 C5;simp only[cop]at hc;split at hc
  .split at hc
   .split at hc
    .simp only[aD]at hc;subst hc;simp only[aF.run,aF.alloc];rw[Ld _ _ λq hq=>by obtain⟨p,h1,rfl⟩:=eT.1 hq;exact hp p h1];exact⟨rfl,rfl⟩
    .cases hc
   .cases hc
  .cases hc
 case makeFunc fn first captured=>
  simp only[cop]at hc;split at hc
  .simp only[aD]at hc;subst hc;refine⟨?_,rfl⟩;simp only[aF.run];rw[Lf first.toList λx hx=>hρ x KB,Lf captured.toList λx hx=>hρ x KK]
  .cases hc
 case slice t x lo hi mx=>
  have h0:ρ x=ρ' x:=hρ x AF;have h1:=Lg (ρ:=ρ) (ρ':=ρ') lo λy hy=>hρ y BE;have h2:=Lg (ρ:=ρ) (ρ':=ρ') hi λy hy=>hρ y BE;have h3:=Lg (ρ:=ρ) (ρ':=ρ') mx λy hy=>hρ y BE;simp only[cop]at hc;split at hc
  .simp only[aD]at hc;subst hc;simp only[aF.run,aF.alloc,h0,h1,h2,h3,and_self]
  .exact rN
  .exact rN
  .cases hc
 case call cl=>
  obtain⟨callee,args,ats⟩:=cl;cases callee with
  |value f=>simp only[cop,aD]at hc;subst hc;exact⟨rfl,rfl⟩
  |invoke x n=>simp only[cop,aD]at hc;subst hc;exact⟨rfl,rfl⟩
  |builtin b=>
   have hargs:∀x∈args.toList,ρ x=ρ' x:=λx hx=>hρ x Kp;have hl:=Lf args.toList hargs;simp only[cop]at hc;repeat' split at hc
   all_goals first
    |contradiction
    |(cases hc;done)
    |skip
   all_goals first
    |(simp only[aD]at hc;subst hc)
    |(simp only[kg]at hc;obtain⟨_,_,rfl⟩:=hc)
   all_goals first
    |exact⟨rfl,rfl⟩
    |(simp only[aF.run,aF.alloc,hl,and_self];done)
    |(simp only[*,dx,Kj,or_false,forall_eq_or_imp,forall_eq]at hargs
      simp only[aF.run,aF.alloc,hargs,and_self])
 all_goals
  simp only[cop]at hc;repeat' split at hc
  all_goals first
   |contradiction
   |(cases hc;done)
   |skip
 all_goals first
  |(simp only[aD]at hc;subst hc)
  |(simp only[kg]at hc;obtain⟨_,_,rfl⟩:=hc)
  |(simp only[reduceCtorEq]at hc;done)
 all_goals (simp[Op.operands]at hρ;simp only[aF.run,aF.alloc,hρ,and_self])
end Go.Ideal
namespace Go.Ideal
variable {P:Program}
variable{β:aG}{h:IH}{w:World}
def WR.hide(hW:WR P β h w)(ob:dN):WR P β (h.new ob) w/\Eff β h w β (h.new ob) w:=by
 have hget:∀i,i<h.next->(h.new ob).get i=h.get i:=λi hi=>by rw[IH.jc,if_neg z7]
 refine⟨⟨?_,?_,?_,?_⟩,⟨λ_ _=>rfl,?_,?_,?_,bT _,?_,rfl,rfl,rfl,bT _,λ_ _ _=>rfl,?_,λ_ _ _ _ _ _ _=>rfl,bT _⟩⟩
 .intro i g hi;have:=hW.dom i g hi;show i<h.next+1;omega
 .intro i o hi;show i<h.next+1
  rw[IH.jc]at hi;split at hi
  .omega
  .have:=hW.live i o hi;omega
 .intro i g o hi ho;rw[hget i (hW.dom i g hi)]at ho;exact hW.obj i g o hi ho
 .intro i j g k hi hj h1 h2 hr he;rw[hget i (hW.dom i g hi)]at h1;rw[hget j (hW.dom j k hj)]at h2;exact hW.inj i j g k hi hj h1 h2 (hr.imp (λq cs e=>q cs (by rw[hget i (hW.dom i g hi)];exact e)) (λq cs e=>q cs (by rw[hget j (hW.dom j k hj)];exact e))) he
 .show h.next<=h.next+1;omega
 .intro i hi hn;rw[hget i hi]at hn;exact hn
 .intro i hi _;exact hget i hi
 .intro i _ hi;exact hget i hi
 .intro i g hg hi;exact absurd (hW.dom i g hg) z7
def WR.Lh(hW:WR P β h w){id:Nat}(hb:β id=none)(hlt:id<h.next){ob:dN}(hg:h.get id=some ob){o':Obj}{g:iJ}(hgb:g.b=w.heap.size)
 (ho:OR P (β.add id g) g {w with heap:=w.heap.push o'} ob):WR P (β.add id g) h {w with heap:=w.heap.push o'}:=by
 have hle:β.le (β.add id g):=aG.xm g hb;have hheap:∀b,b<w.heap.size->({w with heap:=w.heap.push o'}:World).heap[b]? =w.heap[b]?:=λb hb=>by
  exact wM
 have hold:∀j k,β j=some k->h.get j≠none->k.b<w.heap.size:=λj k hk hj=>by
  cases hx:h.get j with
  |none=>exact absurd hx hj
  |some o=>exact(hW.obj j k o hk hx).lt
 refine⟨?_,hW.live,?_,?_⟩
 .intro j k hk;by_cases e:j=id
  .subst e;exact hlt
  .rw[aG.lq _ _ e]at hk;exact hW.dom j k hk
 .intro j k o hk hx;by_cases e:j=id
  .subst e;rw[aG.mh]at hk;cases hk;rw[hg]at hx;cases hx;exact ho
  .rw[aG.lq _ _ e]at hk;exact((hW.obj j k o hk hx).mono hle).congr (hheap _ (hold j k hk (by rw[hx];simp)))
 .intro j l k m hk hm hj hl hr he;by_cases ej:j=id
  .by_cases el:l=id
   .omega
   .subst ej;rw[aG.mh]at hk;cases hk;rw[aG.lq _ _ el]at hm;have:=hold l m hm hl;omega
  .rw[aG.lq _ _ ej]at hk;by_cases el:l=id
   .subst el;rw[aG.mh]at hm;cases hm;have:=hold j k hk hj;omega
   .rw[aG.lq _ _ el]at hm;exact hW.inj _ _ _ _ hk hm hj hl hr he
section
variable (P) (ops:Array Oper) (bQ:Nat->Nat->Bool) (hv:Nat->Bool)
structure uK(done:List Nat)(i:Nat):Prop where
 lt:i<ops.size
 new:i∉done
 pre:∀j,bQ i j=true->j∈done
 heavy:hv i=true->(∀j∈done,hv j=true->bQ i j=true)/\∀j,j<ops.size->hv j=false->j∉done->∃k,bQ j k=true/\k∉done
 own:hv i=false->∀o d,ops[i]? =some o->o.dst=some d->d∉looks ops o
 put:∀o d,ops[i]? =some o->o.dst=some d->∀j∈done,∀p,ops[j]? =some p->(d∈looks ops p\/p.dst=some d)->hv i=true/\bQ i j=true
 look:∀o,ops[i]? =some o->∀j∈done,∀p,ops[j]? =some p->∀d,p.dst=some d->d∈looks ops o->bQ i j=true
def Ep:kI Nat->Prop
 |[]=>True
 |i::d=>uK ops bQ hv d i/\Ep d
def yQ:kI Nat->kI Nat->kI bV->Prop
 |[],done,l=>l=[]/\∀i,i<ops.size->i∈done
 |i::rest,done,l=>uK ops bQ hv done i/\∃s re r,l=⟨s,re⟩::r/\jW P ops i=some s/\(hv i=false->heavy s.op=false)/\
   (hv i=true->∀j∈done,hv j=false->bQ i j=false->∀t,jW P ops j=some t->BP t.op=true->t∈re)/\yQ rest (i::done) r
def uL:kI Nat->kI Nat->Prop
 |S,[]=>∀i,i<ops.size->i∉S->∃j,bQ i j=true/\j∉S
 |S,i::r=>i<ops.size/\i∉S/\(∀j,bQ i j=true->j∈S)/\uL (i::S) r
def Zn:∀(rest D:kI Nat) (l:kI bV),yQ P ops bQ hv rest D l->∀y∈D,hv y=true->∀x,x<ops.size->x∉D->hv x=true->bQ x y=true:=by
 intro rest;induction rest with
 |nil=>intro D l hp y _ _ x hx hxd _;exact absurd (hp.2 x hx) hxd
 |cons i rest ih=>
  intro D l hp y hy QW x hx hxd Ch;obtain⟨h1,s,re,r,_,_,_,_,h2⟩:=hp;by_cases e:x=i
  .subst e;exact(h1.heavy Ch).1 y hy QW
  .exact ih _ _ h2 y (by simp[hy]) QW x hx (by simp[e,hxd]) Ch
def QX:∀(done S:kI Nat),Ep ops bQ hv done->(∃x∈done,x∉S)->∃x∈done,x∉S/\∀j,bQ x j=true->j∈S:=by
 intro done;induction done with
 |nil=>intro S _ h;obtain⟨x,hx,_⟩:=h;simp at hx
 |cons i d ih=>
  intro S hd h;obtain⟨h1,h2⟩:=hd;by_cases hp:∃x∈d,x∉S
  .obtain⟨x,a,b,c⟩:=ih S h2 hp;exact⟨x,by simp[a],b,c⟩
  .have hall:∀x∈d,x∈S:=λx hx=>Decidable.byContradiction λhn=>hp ⟨x,hx,hn⟩;obtain⟨x,hx,hxs⟩:=h;rcases dx.1 hx with rfl|hx
   .exact⟨x,An,hxs,λj hj=>hall j (h1.pre j hj)⟩
   .exact absurd (hall x hx) hxs
end
section
variable (P) (ops:Array Oper) (hv:Nat->Bool)
inductive QY(β:aG)(lo:Nat)(a:aV)(h:IH)(al:Nat->Nat)(i:Nat):Prop
 |skip (o:Oper) (s:iq) (ho:ops[i]? =some o) (hs:jW P ops i=some s) (hl:heavy s.op=false) (hw:a.wants s.guard=some false) (hd:∀d,s.dst=some d->dL a.tmps d=sS\/a.n<=d)
 |lu (o:Oper) (s:iq) (ho:ops[i]? =some o) (hs:jW P ops i=some s) (hl:heavy s.op=false) (hw:a.wants s.guard=some true) (hm:s.op.makes=false) (u:Value) (hr:s.op.run P a.eval h=some (u,h))
   (hd:∀d,s.dst=some d->dL a.tmps d=u\/a.n<=d)
 |make (o:Oper) (s:iq) (ho:ops[i]? =some o) (hs:jW P ops i=some s) (hl:heavy s.op=false) (hw:a.wants s.guard=some true) (hm:s.op.makes=true) (f:Nat->Value) (ob:dN) (hr:s.op.alloc a.eval=some (f,ob))
   (hlo:lo<=al i) (hlt:al i<h.next) (hb:β (al i)=none) (hg:h.get (al i)=some ob) (hd:∀d,s.dst=some d->dL a.tmps d=f (al i)\/a.n<=d)
def waits(done S:kI Nat)(t:Nat):Prop:=∃i o,i∈done/\i∉S/\ops[i]? =some o/\o.dst=some t
structure Inv(bQ:Nat->Nat->Bool)(β0:aG)(h0:IH)(w0:World)(done S:List Nat)(β:aG)(a:aV)(h:IH)(w:World)(tm:Array Value)(df:List Deferred):Prop where
 tJ:Ep ops bQ hv done
 sub:∀i∈S,i∈done
 Er:∀i∈done,hv i=true->i∈S
 pend:∃al:Nat->Nat,(∀i∈done,i∉S->QY P ops β h0.next a h al i)/\∀i j,i∈done->j∈done->i∉S->j∉S->i≠j->(∃s,jW P ops i=some s/\s.op.makes=true/\a.wants s.guard=some true)->(∃s,jW P ops j=some s/\s.op.makes=true/\a.wants s.guard=some true)->al i≠al j
 act:AR β (waits ops done S) a tm df
 wr:WR P β h w
 tK:Eff β0 h0 w0 β h w
end
variable{ops:Array Oper}{s:iq}
def oz{i:Nat}(h:jW P ops i=some s):∃o,ops[i]? =some o/\cop P o=some s.op/\s.dst=o.dst/\(∀x∈o.op.operands,z8 P x=true)/\
 ((o.guard=none/\s.guard=none)\/∃j want t,o.guard=some (j,want)/\(ops[j]?).bind (·.dst)=some t/\s.guard=some (t,want)):=by
 unfold jW at h;cases ho:ops[i]? with
 |none=>rw[ho]at h;cases h
 |some o=>
  rw[ho]at h;simp only[iX]at h;refine⟨o,rfl,?_⟩;unfold DR at h;split at h
  .rename_i hall;have GX:∀x∈o.op.operands,z8 P x=true:=λx hx=>(lK.1 hall) x AM;split at h
   .cases h
   .rename_i c hc;split at h
    .rename_i hg;simp only[aD]at h;subst h;exact⟨hc,rfl,GX,.inl ⟨hg,rfl⟩⟩
    .rename_i j want hg;split at h
     .rename_i t ht;simp only[aD]at h;subst h;exact⟨hc,rfl,GX,.inr ⟨j,want,t,hg,ht,rfl⟩⟩
     .cases h
  .cases h
variable{o:Oper}
def Es{t:Nat}(h:(∃x∈o.op.operands,x=.tmp t)\/∃j want,o.guard=some (j,want)/\(ops[j]?).bind (·.dst)=some t):t∈looks ops o:=by
 unfold looks;rcases h with⟨x,hx,rfl⟩|⟨j,want,h1,h2⟩
 .exact je _ (Kk.2 ⟨.tmp t,by simpa using hx,rfl⟩)
 .refine nA _ ?_;rw[h1];simp[h2]
def GY{X:Nat->Prop}{a:aV}{tm:Array vI}{df:kI Deferred}(hg:(o.guard=none/\s.guard=none)\/∃j want t,o.guard=some (j,want)/\(ops[j]?).bind (·.dst)=some t/\s.guard=some (t,want))
 (k:AR β X a tm df) (hx:∀t,t∈looks ops o->¬X t) {r:Bool} (hw:a.wants s.guard=some r):Region.wanted o (yielded ops tm)=r:=by
 rcases hg with⟨h1,h2⟩|⟨j,want,t,h1,h2,h3⟩
 .rw[h2]at hw;simp only[aV.wants,aD]at hw;simp[Region.wanted,h1,<- hw]
 .rw[h3]at hw;have hv:=k.tmps t (hx t (Es (.inr ⟨j,want,h1,h2⟩)));simp only[aV.wants]at hw;have hy:Region.wanted o (yielded ops tm)=((match tm[t]? with|some (.bool b)=>some b|_=>none)==some want):=by
   simp only[Region.wanted,h1,yielded,h2,iX];rfl
  rw[hy];split at hw
  .rename_i b hb;rw[hb]at hv;have hv':=hv.GJ;rw[sM]at hv';cases ht:tm[t]? with
   |none=>rw[ht]at hv';simp[undef]at hv'
   |some u=>
    rw[ht]at hv';simp only[wQ]at hv';subst hv';simp only[aD]at hw;subst hw;cases b<;>cases want<;>rfl
  .rename_i c hb;rw[hb]at hv;simp only[aD]at hw;subst hw;generalize hz:tm.getD t undef=z at hv;cases hv;rw[sM]at hz;cases ht:tm[t]? with
   |none=>rfl
   |some u=>
    rw[ht]at hz;simp only[wQ]at hz;subst hz;rfl
  .cases hw
end Go.Ideal
namespace Go.Ideal
variable {P:Program} {ops:Array Oper} {bQ:Nat->Nat->Bool} {hv:Nat->Bool}
variable{β:aG}
def kL.le{β':aG}(h:β.le β')(k:kL P β):kL P β':=λg hg=>let⟨i,a,b⟩:=k g hg;⟨i,h _ _ a,b⟩
def Eff.Lh{β0:aG}{h0 h:IH}{w0 w:World}(e:Eff β0 h0 w0 β h w){id:Nat}{g:iJ}(hlo:h0.next<=id)(hgb:g.b=w.heap.size)(o':Obj):Eff β0 h0 w0 (β.add id g) h {w with heap:=w.heap.push o'} where
 agree i hi:=(aG.lq _ _ z7).trans (e.agree i hi)
 next:=e.next
 alive:=e.alive
 hid:=e.hid
 low:=e.low
 kept:=e.kept
 os:=e.os
 tape:=e.tape
 output:=e.output
 drawn:=e.drawn
 size:=by have:=e.size;simp;omega
 keep b hb hno:=by
  rw[<- e.keep b hb hno];have:=e.size;exact wM
 fresh i k hk hi:=by
  by_cases ei:i=id
  .subst ei;rw[aG.mh]at hk;cases hk;left;rw[hgb];exact e.size
  .rw[aG.lq _ _ ei]at hk;exact e.fresh i k hk hi
 tq i k hl hi hk hn hb:=by
  rw[<- e.tq i k hl hi hk hn hb];have:=e.size;show(w.heap.push o')[k.b]? =_;rw[Ga,if_neg z7]
def Li:∀{done:kI Nat},Ep ops bQ hv done->∀{x:Nat},x∈done->∃d,uK ops bQ hv d x:=by
 intro done;induction done with
 |nil=>intro _ x hx;simp at hx
 |cons i d ih=>
  intro hd x hx;rcases dx.1 hx with rfl|hx
  .exact⟨d,hd.1⟩
  .exact ih hd.2 hx
def Zo:∀{done:kI Nat},Ep ops bQ hv done->∀{x y:Nat},x∈done->y∈done->x≠y->(∃d,uK ops bQ hv d y/\x∈d)\/(∃d,uK ops bQ hv d x/\y∈d):=by
 intro done;induction done with
 |nil=>intro _ x y hx;simp at hx
 |cons i d ih=>
  intro hd x y hx hy hne;rcases dx.1 hx with e1|hx'
  .rcases dx.1 hy with e2|hy'
   .exact absurd (e1.trans e2.symm) hne
   .subst e1;exact .inr ⟨d,hd.1,hy'⟩
  .rcases dx.1 hy with e2|hy'
   .subst e2;exact .inl ⟨d,hd.1,hx'⟩
   .exact ih hd.2 hx' hy' hne
section
variable {β0:aG} {h0:IH} {w0:World} {done S:kI Nat} {β:aG} {a:aV} {h:IH} {w:World} {tm:Array vI} {df:kI Deferred}
def Inv.Lj(hI:Inv P ops hv bQ β0 h0 w0 done S β a h w tm df){x:Nat}(hx:x∈done)(hs:x∉S):hv x=false:=by
 cases hh:hv x with
 |false=>rfl
 |true=>exact absurd (hI.Er x hx hh) hs
def Inv.GZ(hI:Inv P ops hv bQ β0 h0 w0 done S β a h w tm df){x:Nat}(hx:x∈done)(hs:x∉S)(hpre:∀j,bQ x j=true->j∈S){o:Oper}(ho:ops[x]? =some o){t:Nat}(ht:t∈looks ops o):¬waits ops done S t:=by
 rintro⟨y,p,hy,hys,hp,kP⟩;by_cases e:x=y
 .subst e;rw[ho]at hp;cases hp;obtain⟨d,hd⟩:=Li hI.tJ hx;exact hd.own (hI.Lj hx hs) o t ho kP ht
 .rcases Zo hI.tJ hx hy e with⟨d,hd,hxd⟩|⟨d,hd,Zp⟩
  .have:=(hd.put p t hp kP x hxd o ho (.inl ht)).1;rw[hI.Lj hy hys]at this;cases this
  .exact hys (hpre y (hd.look o ho y Zp p hp t kP ht))
def Inv.Ll(hI:Inv P ops hv bQ β0 h0 w0 done S β a h w tm df){x:Nat}(hx:x∈done)(hs:x∉S){o:Oper}(ho:ops[x]? =some o){β':aG}(hle:β.le β'){u v':vI}(hd:∀d,o.dst=some d->dL a.tmps d=u\/a.n<=d)(hv':VR β' u v'):
 AR β' (waits ops done (x::S)) a (o8 tm o.dst v') df:=by
 have hA:=hI.act;refine⟨?_,λt ht=>?_,hA.out,hA.defers.mono hle⟩
 .rw[<- hA.size];unfold o8;split<;>simp
 .by_cases e:o.dst=some t
  .rw[e];show VR β' _ ((tm.setIfInBounds t v').getD t undef);by_cases hlt:t<tm.size
   .rw[GQ tm t v' t hlt,if_pos rfl];rcases hd t e with h1|h1
    .rw[h1];exact hv'
    .rw[hA.out t h1];exact .dU _
   .rw[hA.out t (by rw[<- hA.size];omega)];exact .dU _
  .have hnw:¬waits ops done S t:=by
    rintro⟨y,p,hy,hys,hp,kP⟩;refine ht ⟨y,p,hy,?_,hp,kP⟩;intro hc;rcases dx.1 hc with rfl|hc
    .rw[ho]at hp;cases hp;exact e kP
    .exact hys hc
   have rF:=(hA.tmps t hnw).mono hle;cases hd2:o.dst with
   |none=>exact rF
   |some d=>
    show VR β' _ ((tm.setIfInBounds d v').getD t undef);have hne:d≠t:=λe2=>e (by rw[hd2,e2]);rw[sM,Gb hne,<- sM];exact rF
def Inv.take(hI:Inv P ops hv bQ β0 h0 w0 done S β a h w tm df)(hG:kL P β0)(hdom:∀i g,β0 i=some g->i<h0.next){x:Nat}(hx:x∈done)(hs:x∉S)(hpre:∀j,bQ x j=true->j∈S)(b:Frame)(k:kI Item)(cs:kI Frame)(rest:kI Nat):
 ∃β' w' tm',step P (lone (fr b tm df (.inRegion ops (x::rest)::k)) cs w)=.next (lone (fr b tm' df (.inRegion ops rest::k)) cs w')/\β.le β'/\Inv P ops hv bQ β0 h0 w0 done (x::S) β' a h w' tm' df:=by
 obtain⟨al,hp,hal⟩:=hI.pend;have hGβ:kL P β:=hG.le (hI.tK.le hdom);have Lm:∀i∈done,hv i=true->i∈x::S:=λi hi hh=>cO _ (hI.Er i hi hh);have hsub:∀i∈x::S,i∈done:=λi hi=>by
  rcases dx.1 hi with rfl|hi
  .exact hx
  .exact hI.sub i hi
 have vR:∀y,y∉x::S->y∉S/\y≠x:=λy hy=>⟨λhc=>hy (cO _ hc),λe=>hy B9⟩
 have QZ:∀{o:Oper},ops[x]? =some o->∀y∈o.op.operands,∀t,y=.tmp t->¬waits ops done S t:=λho y hy t ht=>hI.GZ hx hs hpre ho (Es (.inl ⟨y,hy,ht⟩));have keep:∀(β':aG),(∀j,j∈done->j∉x::S->(∃s,jW P ops j=some s/\s.op.makes=true/\a.wants s.guard=some true)->β' (al j)=β (al j))->∀i∈done,i∉x::S->QY P ops β' h0.next a h al i:=by
  intro β' hb i hi his;cases hp i hi (vR i his).1 with
  |skip o s ho hs hl hw hd=>exact .skip o s ho hs hl hw hd
  |lu o s ho hs hl hw hm u hr hd=>exact .lu o s ho hs hl hw hm u hr hd
  |make o s ho hs hl hw hm f ob hr hlo hlt hbb hg hd=>exact .make o s ho hs hl hw hm f ob hr hlo hlt (by rw[hb i hi his ⟨s,hs,hm,hw⟩];exact hbb) hg hd
 have Lp:∀i j,i∈done->j∈done->i∉x::S->j∉x::S->i≠j->(∃s,jW P ops i=some s/\s.op.makes=true/\a.wants s.guard=some true)->(∃s,jW P ops j=some s/\s.op.makes=true/\a.wants s.guard=some true)->al i≠al j:=
  λi j hi hj his hjs=>hal i j hi hj (vR i his).1 (vR j hjs).1
 cases hp x hx hs with
 |skip o s ho hcs hl hw hd=>
  obtain⟨o',ho',gD,hdst,uM,hgd⟩:=oz hcs;rw[ho]at ho';cases ho';have hwant:=GY hgd hI.act (λt ht=>hI.GZ hx hs hpre ho ht) hw;refine⟨β,w,o8 tm o.dst undef,?_,λ_ _ e=>e,hI.tJ,hsub,Lm,⟨al,keep β λ_ _ _ _=>rfl,Lp⟩,?_,hI.wr,hI.tK⟩
  .have:=QS (P:=P) (b:=b) (tm:=tm) (df:=df) (k:=k) (cs:=cs) (w:=w) (ops:=ops) (i:=x) (rest:=rest) (by simp[ho,hwant]);rw[this,ho];rfl
  .rw[hdst]at hd;exact hI.Ll hx hs ho (λ_ _ e=>e) hd .skip
 |lu o s ho hcs hl hw hm u hr hd=>
  obtain⟨o',ho',gD,hdst,uM,hgd⟩:=oz hcs;rw[ho]at ho';cases ho';have hwant:=GY hgd hI.act (λt ht=>hI.GZ hx hs hpre ho ht) hw;obtain⟨r,w',β',v',g1,g2,g3,g4,g5⟩:=QO (ρ':=Act.eval ⟨tm,df⟩) gD (λy hy=>hI.act.eval hGβ (uM y hy) (QZ ho y hy)) hr hI.wr;have hnd:∀c,o.op≠.defer c:=by
   exact fp
  have hle:=g5.le hI.wr.dom;refine⟨β',w',o8 tm o.dst v',GV ho hwant (.inr hnd) g1 g2,hle,hI.tJ,hsub,Lm,⟨al,keep β' λj hj hjs hjm=>?_,Lp⟩,?_,g4,hI.tK.trans g5⟩
  .obtain⟨t,h1,h2,h3⟩:=hjm;cases hp j hj (vR j hjs).1 with
   |skip o2 s2 _ hs2 _ hw2 _=>rw[h1]at hs2;cases hs2;rw[h3]at hw2;cases hw2
   |lu o2 s2 _ hs2 _ _ hm2 _ _ _=>rw[h1]at hs2;cases hs2;rw[h2]at hm2;cases hm2
   |make o2 s2 _ _ _ _ _ _ _ _ _ hlt _ _ _=>exact g5.agree _ hlt
  .rw[hdst]at hd;exact hI.Ll hx hs ho hle hd g3
 |make o s ho hcs hl hw hm f ob hr hlo hlt hbn hget hd=>
  obtain⟨o',ho',gD,hdst,uM,hgd⟩:=oz hcs;rw[ho]at ho';cases ho';have hwant:=GY hgd hI.act (λt ht=>hI.GZ hx hs hpre ho ht) hw;obtain⟨v',o',g,m1,m2,m3⟩:=QN (ρ':=Act.eval ⟨tm,df⟩) (w:=w) hm gD (λy hy=>hI.act.eval hGβ (uM y hy) (QZ ho y hy)) hr;have hle:=aG.xm (β:=β) g hbn;obtain⟨m4,m5⟩:=m3 (al x) _ hle (aG.mh _ _ _);have hnd:∀c,o.op≠.defer c:=by
   exact fp
  refine⟨β.add (al x) g,_,o8 tm o.dst v',GV ho hwant (.inr hnd) m1 (.inl rfl),hle,hI.tJ,hsub,Lm,⟨al,keep _ λj hj hjs hjm=>?_,Lp⟩,?_,hI.wr.Lh hbn hlt hget m2 m5,hI.tK.Lh hlo m2 o'⟩
  .exact aG.lq _ _ (hal j x hj hx (vR j hjs).1 hs (vR j hjs).2 hjm ⟨s,hcs,hm,hw⟩)
  .rw[hdst]at hd;exact hI.Ll hx hs ho hle hd m4
def Inv.flush(hG:kL P β0)(hdom:∀i g,β0 i=some g->i<h0.next){i:Nat}(hstep:uK ops bQ hv done i)(jL:hv i=true)(Zq:∀x,x<ops.size->x∉done->x≠i->hv x=true->bQ x i=true)
 (b:Frame) (k:kI Item) (cs:kI Frame):∀(ρ S:kI Nat) (β:aG) (w:World) (tm:Array vI),Inv P ops hv bQ β0 h0 w0 done S β a h w tm df->uL ops bQ S ρ->
 ∃S' β' w' tm' ρ',Steps P (lone (fr b tm df (.inRegion ops ρ::k)) cs w) (lone (fr b tm' df (.inRegion ops (i::ρ')::k)) cs w')/\β.le β'/\Inv P ops hv bQ β0 h0 w0 done S' β' a h w' tm' df/\uL ops bQ S' (i::ρ'):=by
 intro ρ;induction ρ with
 |nil=>
  intro S β w tm hI hR
  exfalso
  by_cases hp:∃x∈done,x∉S
  .obtain⟨x,h1,h2,h3⟩:=QX ops bQ hv done S hI.tJ hp;obtain⟨d,hd⟩:=Li hI.tJ h1;obtain⟨j,h4,h5⟩:=hR x hd.lt h2;exact h5 (h3 j h4)
  .have hall:∀x∈done,x∈S:=λx hx=>Decidable.byContradiction λhn=>hp ⟨x,hx,hn⟩;obtain⟨j,h4,h5⟩:=hR i hstep.lt λhc=>hstep.new (hI.sub i hc);exact h5 (hall j (hstep.pre j h4))
 |cons x ρ ih=>
  intro S β w tm hI hR;by_cases e:x=i
  .subst e;exact⟨S,β,w,tm,ρ,Steps.refl P _,λ_ _ e=>e,hI,hR⟩
  .obtain⟨r1,r2,r3,r4⟩:=hR;have hx:x∈done:=by
    refine Decidable.byContradiction λhn=>?_;cases hh:hv x with
    |false=>
     obtain⟨j,h1,h2⟩:=(hstep.heavy jL).2 x r1 hh hn;exact h2 (hI.sub j (r3 j h1))
    |true=>exact hstep.new (hI.sub i (r3 i (Zq x r1 hn e hh)))
   obtain⟨β',w',tm',s1,s0,s2⟩:=hI.take hG hdom hx r2 r3 b k cs ρ;obtain⟨S',β'',w'',Lr,ρ',t1,t0,t2,t3⟩:=ih _ _ _ _ s2 r4;exact⟨S',β'',w'',Lr,ρ',.head s1 t1,λ_ _ e=>t0 _ _ (s0 _ _ e),t2,t3⟩
def Inv.finish(hG:kL P β0)(hdom:∀i g,β0 i=some g->i<h0.next)(hall:∀i,i<ops.size->i∈done)
 (b:Frame) (k:kI Item) (cs:kI Frame):∀(ρ S:kI Nat) (β:aG) (w:World) (tm:Array vI),Inv P ops hv bQ β0 h0 w0 done S β a h w tm df->uL ops bQ S ρ->
 ∃β' w' tm',Steps P (lone (fr b tm df (.inRegion ops ρ::k)) cs w) (lone (fr b tm' df k) cs w')/\β.le β'/\AR β' none' a tm' df/\WR P β' h w'/\Eff β0 h0 w0 β' h w':=by
 intro ρ;induction ρ with
 |nil=>
  intro S β w tm hI hR;have hS:∀x∈done,x∈S:=λx hx=>Decidable.byContradiction λhn=>by
   obtain⟨y,h1,h2,h3⟩:=QX ops bQ hv done S hI.tJ ⟨x,hx,hn⟩;obtain⟨d,hd⟩:=Li hI.tJ h1;obtain⟨j,h4,h5⟩:=hR y hd.lt h2;exact h5 (h3 j h4)
  refine⟨β,w,tm,.one Ze,λ_ _ e=>e,⟨hI.act.size,λi _=>hI.act.tmps i ?_,hI.act.out,hI.act.defers⟩,hI.wr,hI.tK⟩;rintro⟨y,p,hy,hys,_⟩;exact hys (hS y hy)
 |cons x ρ ih=>
  intro S β w tm hI hR;obtain⟨r1,r2,r3,r4⟩:=hR;obtain⟨β',w',tm',s1,s0,s2⟩:=hI.take hG hdom (hall x r1) r2 r3 b k cs ρ;obtain⟨β'',w'',Lr,t1,t0,t2⟩:=ih _ _ _ _ s2 r4;exact⟨β'',w'',Lr,.head s1 t1,λ_ _ e=>t0 _ _ (s0 _ _ e),t2⟩
end
end Go.Ideal
namespace Go.Ideal
variable {P:Program} {ops:Array Oper} {bQ:Nat->Nat->Bool} {hv:Nat->Bool}
def tL(a:aV)(d:x8 Tmp)(v:vI)(t:Nat):dL (a.put d v).tmps t=if d=some t/\t<a.n then v else dL a.tmps t:=by
 cases d with
 |none=>simp[aV.put]
 |some d=>
  show dL (a.set d v).tmps t=_;unfold aV.set;cases hb:Nat.blt d a.n with
  |true=>
   have hlt: @LT.lt Nat _ d a.n:=Bk
   show dL (a.tmps.set d (some v)) t=_;rw[BZ];by_cases e:t=d
   .subst e;rw[if_pos rfl,if_pos ⟨rfl,hlt⟩]
   .rw[if_neg e,if_neg];rintro⟨h1,_⟩;simp at h1;exact e h1.symm
  |false=>
   show dL a.tmps t=_;rw[if_neg];rintro⟨h1,h2⟩;simp only[aD]at h1;subst h1;have:Nat.blt d a.n=true:=by simpa[sJ]using h2
   rw[this]at hb;cases hb
def qc(a:aV)(d:x8 Tmp)(v:vI):(a.put d v).n=a.n:=by
 cases d with
 |none=>rfl
 |some d=>show(a.set d v).n=_;unfold aV.set;cases Nat.blt d a.n<;>rfl
def put_defers(a:aV)(d:x8 Tmp)(v:vI):(a.put d v).defers=a.defers:=by
 cases d with
 |none=>rfl
 |some d=>show(a.set d v).defers=_;unfold aV.set;cases Nat.blt d a.n<;>rfl
def uN(a:aV)(d:x8 Tmp)(v:vI):(a.put d v).pm=a.pm:=by
 cases d with
 |none=>rfl
 |some d=>show(a.set d v).pm=_;unfold aV.set;cases Nat.blt d a.n<;>rfl
def uO(a:aV)(d:x8 Tmp)(v:vI):(a.put d v).ro=a.ro:=by
 cases d with
 |none=>rfl
 |some d=>show(a.set d v).ro=_;unfold aV.set;cases Nat.blt d a.n<;>rfl
def Cj{a a2:aV}{o:Oper}{s:iq}{i:Nat}(hi:ops[i]? =some o)(hs:jW P ops i=some s)(h:∀t,t∈looks ops o->dL a2.tmps t=dL a.tmps t):
 (∀x∈o.op.operands,a2.eval x=a.eval x)/\a2.wants s.guard=a.wants s.guard:=by
 obtain⟨o',ho',_,_,_,hg⟩:=oz hs;rw[hi]at ho';cases ho';refine⟨λx hx=>?_,?_⟩
 .cases x with
  |tmp t=>exact h t (Es (.inl ⟨_,hx,rfl⟩))
  |const v=>rfl
  |global g=>rfl
  |func f=>rfl
 .rcases hg with⟨_,h2⟩|⟨j,want,t,h1,h2,h3⟩
  .rw[h2];rfl
  .rw[h3];simp only[aV.wants,h t (Es (.inr ⟨j,want,h1,h2⟩))]
section
variable {β0:aG} {h0:IH} {w0:World} {done S:kI Nat} {β:aG} {a:aV} {h:IH} {w:World} {tm:Array vI} {df:kI Deferred}
def Inv.sync(hI:Inv P ops hv bQ β0 h0 w0 done S β a h w tm df){i:Nat}(hstep:uK ops bQ hv done i){o:Oper}(ho:ops[i]? =some o)(hpre:∀j,bQ i j=true->j∈S)
 {β2:aG} {h2:IH} {w2:World} (heff:Eff β h w β2 h2 w2) (hwr:WR P β2 h2 w2) {v v':vI} (hvv:VR β2 v v') {a2:aV} (ha2:∀t,dL a2.tmps t=dL (a.put o.dst v).tmps t) (hn:a2.n=a.n) {df2:kI Deferred} (hdf:tH β2 a2.defers df2)
 (hre:h2=h\/∀j∈done,j∉S->∀t,jW P ops j=some t->BP t.op=true->a2.wants t.guard≠some false->∃u h3,t.op.run P a2.eval h2=some (u,h3)/\∀d,t.dst=some d->dL a2.tmps d=u):
 Inv P ops hv bQ β0 h0 w0 (i::done) (i::S) β2 a2 h2 w2 (o8 tm o.dst v') df2:=by
 have hle:=heff.le hI.wr.dom;obtain⟨al,hp,hal⟩:=hI.pend;have vR:∀y,y∈i::done->y∉i::S->y∈done/\y∉S/\y≠i:=λy hy hys=>by
  have hne:y≠i:=λe=>hys B9;exact⟨(dx.1 hy).resolve_left hne,λhc=>hys (cO _ hc),hne⟩
 have free:∀j∈done,j∉S->∀p,ops[j]? =some p->(∀t∈looks ops p,o.dst≠some t)/\∀t,p.dst=some t->o.dst≠some t:=λj hj hjs p fU=>
  ⟨λt ht hd=>hjs (hpre j (hstep.put o t ho hd j hj p fU (.inl ht)).2),λt ht hd=>hjs (hpre j (hstep.put o t ho hd j hj p fU (.inr ht)).2)⟩
 have qd:∀t,o.dst≠some t->dL a2.tmps t=dL a.tmps t:=λt ht=>by rw[ha2,tL,if_neg (λhc=>ht hc.1)]
 have same:∀j∈done,j∉S->∀p s,ops[j]? =some p->jW P ops j=some s->(∀x∈p.op.operands,a2.eval x=a.eval x)/\a2.wants s.guard=a.wants s.guard:=λj hj hjs p s fU hsj=>
  Cj fU hsj λt ht=>qd t ((free j hj hjs p fU).1 t ht)
 have Ap:∀j∈done,j∉S->(∃s,jW P ops j=some s/\s.op.makes=true/\a2.wants s.guard=some true)->∃s,jW P ops j=some s/\s.op.makes=true/\a.wants s.guard=some true:=λj hj hjs ⟨s,q1,q2,q3⟩=>by
  obtain⟨p,fU,_⟩:=oz q1;exact⟨s,q1,q2,by rw[<- (same j hj hjs p s fU q1).2];exact q3⟩
 refine⟨⟨hstep,hI.tJ⟩,?_,?_,⟨al,?_,?_⟩,?_,hwr,hI.tK.trans heff⟩
 .intro x hx;rcases dx.1 hx with e|hx
  .simp[e]
  .exact cO _ (hI.sub x hx)
 .intro x hx hh;rcases dx.1 hx with e|hx
  .simp[e]
  .exact cO _ (hI.Er x hx hh)
 .intro j hj hjs;obtain⟨c1,c2,c3⟩:=vR j hj hjs;cases hp j c1 c2 with
  |skip p s fU hs hl hw hd=>
   obtain⟨f1,f2⟩:=free j c1 c2 p fU;obtain⟨_,oC,_,hdst,_⟩:=oz hs;rw[fU]at oC;cases oC;refine .skip p s fU hs hl (by rw[(same j c1 c2 p s fU hs).2];exact hw) λd hdd=>?_;rw[qd d (f2 d C6),hn];exact hd d hdd
  |lu p s fU hs hl hw hm u hr hd=>
   obtain⟨f1,f2⟩:=free j c1 c2 p fU;obtain⟨_,oC,gD,hdst,_⟩:=oz hs;rw[fU]at oC;cases oC;obtain⟨e1,e2⟩:=same j c1 c2 p s fU hs;have hcg:∀hh:IH,s.op.run P a2.eval hh=s.op.run P a.eval hh:=λhh=>(Ci gD e1 hh).1;cases hrd:BP s.op with
   |false=>
    have hr2:s.op.run P a2.eval h2=some (u,h2):=by rw[hcg];exact Zl hl hm hrd hr h2
    refine .lu p s fU hs hl Bs hm u hr2 λd hdd=>?_;rw[qd d (f2 d C6),hn];exact hd d hdd
   |true=>
    rcases hre with rfl|hre
    .refine .lu p s fU hs hl Bs hm u (by rw[hcg];exact hr) λd hdd=>?_;rw[qd d (f2 d C6),hn];exact hd d hdd
    obtain⟨u2,h3,g1,g2⟩:=hre j c1 c2 s hs hrd (by rw[e2,hw];simp);have Zr:=QU hl hm g1;subst Zr;exact .lu p s fU hs hl Bs hm u2 g1 λd hdd=>.inl (g2 d hdd)
  |make p s fU hs hl hw hm f ob hr hlo hlt hb hg hd=>
   obtain⟨f1,f2⟩:=free j c1 c2 p fU;obtain⟨_,oC,gD,hdst,_⟩:=oz hs;rw[fU]at oC;cases oC;obtain⟨e1,e2⟩:=same j c1 c2 p s fU hs;have hb2:β2 (al j)=none:=by rw[heff.agree _ hlt];exact hb
   have hg2:h2.get (al j)=some ob:=by rw[heff.hid _ hlt hb];exact hg
   refine .make p s fU hs hl Bs hm f ob (by rw[(Ci gD e1 h).2];exact hr) hlo (mM hlt heff.next) hb2 hg2 λd hdd=>?_;rw[qd d (f2 d C6),hn];exact hd d hdd
 .intro x y hx hy hxs hys hne mx my;obtain⟨c1,c2,_⟩:=vR x hx hxs;obtain⟨d1,d2,_⟩:=vR y hy hys;exact hal x y c1 d1 c2 d2 hne (Ap x c1 c2 mx) (Ap y d1 d2 my)
 .have hA:=hI.act;refine⟨?_,λt ht=>?_,λt ht=>?_,hdf⟩
  .rw[hn,<- hA.size];unfold o8;split<;>simp
  .have hnw:¬waits ops done S t:=by
    rintro⟨y,p,hy,hys,hp',kP⟩;refine ht ⟨y,p,cO _ hy,?_,hp',kP⟩;intro hc;rcases dx.1 hc with e|hc
    .subst e;exact hstep.new hy
    .exact hys hc
   have rF:=(hA.tmps t hnw).mono hle;rw[ha2,tL];cases hd2:o.dst with
   |none=>
    rw[if_neg An];exact rF
   |some d=>
    show VR β2 _ ((tm.setIfInBounds d v').getD t undef);have hsz:=hA.size;by_cases hdt:d=t
    .subst hdt;by_cases hlt: @LT.lt Nat _ d a.n
     .rw[if_pos ⟨rfl,hlt⟩,GQ tm d v' d z7,if_pos rfl];exact hvv
     .rw[if_neg (λhc=>hlt hc.2)];rw[hA.out d z7];exact .dU _
    .rw[if_neg (λhc=>hdt (by simpa using hc.1))];rw[sM,Gb hdt,<- sM];exact rF
  .rw[ha2,tL,if_neg (λhc=>by have:=hc.2;omega)];exact hA.out t z7
def Inv.ahead(hI:Inv P ops hv bQ β0 h0 w0 done S β a h w tm df){i:Nat}(hstep:uK ops bQ hv done i)(hlt:hv i=false){o:Oper}{s:iq}(ho:ops[i]? =some o)(hs:jW P ops i=some s)(hl:heavy s.op=false)
 {v:vI} {h2:IH} (hcase:(a.wants s.guard=some false/\v=sS/\h2=h)\/(a.wants s.guard=some true/\s.op.run P a.eval h=some (v,h2))):
 Inv P ops hv bQ β0 h0 w0 (i::done) S β (a.put s.dst v) h2 w tm df:=by
 obtain⟨al,hp,hal⟩:=hI.pend;obtain⟨o',ho',gD,hdst,_,_⟩:=oz hs;rw[ho]at ho';cases ho';have tN:i∉S:=λhc=>hstep.new (hI.sub i hc);have qd:∀t,o.dst≠some t->dL (a.put s.dst v).tmps t=dL a.tmps t:=λt ht=>by rw[tL,hdst,if_neg (λhc=>ht hc.1)]
 have free:∀j∈done,∀p,ops[j]? =some p->(∀t∈looks ops p,o.dst≠some t)/\∀t,p.dst=some t->o.dst≠some t:=λj hj p fU=>
  ⟨λt ht hd=>(by have:=(hstep.put o t ho hd j hj p fU (.inl ht)).1;rw[hlt]at this;cases this),λt ht hd=>(by have:=(hstep.put o t ho hd j hj p fU (.inr ht)).1;rw[hlt]at this;cases this)⟩
 have own:∀t∈looks ops o,o.dst≠some t:=λt ht hd=>hstep.own hlt o t ho hd ht;have Ls:∀d,s.dst=some d->dL (a.put s.dst v).tmps d=v\/(a.put s.dst v).n<=d:=λd hd=>by
  rw[tL,qc,hd];by_cases hh: @LT.lt Nat _ d a.n
  .left;rw[if_pos ⟨rfl,hh⟩]
  .right;exact Nat.le_of_not_lt hh
 have hheap:(h2=h/\((a.wants s.guard=some true)->s.op.makes=false))\/(a.wants s.guard=some true/\s.op.makes=true/\∃f ob,s.op.alloc a.eval=some (f,ob)/\v=f h.next/\h2=h.new ob):=by
  rcases hcase with⟨q1,_,q3⟩|⟨q1,q2⟩
  .exact .inl ⟨q3,λhc=>by rw[q1]at hc;cases hc⟩
  .cases hm:s.op.makes with
   |false=>exact .inl ⟨QU hl hm q2,λ_=>rfl⟩
   |true=>
    rw[aF.QM hm]at q2;obtain⟨f,ob,e1,e2,e3⟩:=QL q2;exact .inr ⟨q1,rfl,f,ob,e1,e2,e3⟩
 have hsub:∀x ob,h.get x=some ob->h2.get x=some ob:=λx ob hx=>by
  rcases hheap with⟨e,_⟩|⟨_,_,f,Lt,_,_,e⟩
  .rw[e];exact hx
  .rw[e];exact Zk hI.wr.live _ _ _ hx
 have hnext:h.next<=h2.next:=by
  rcases hheap with⟨e,_⟩|⟨_,_,f,Lt,_,_,e⟩
  .rw[e];exact bT _
  .rw[e];exact BI _
 have Q0:WR P β h2 w/\Eff β h w β h2 w:=by
  rcases hheap with⟨e,_⟩|⟨_,_,f,Lt,_,_,e⟩
  .rw[e];exact⟨hI.wr,Eff.refl _ _ _ hI.wr.dom⟩
  .rw[e];exact hI.wr.hide Lt
 have hne:∀j∈done,j≠i:=λj hj e=>hstep.new (e▸hj);have Ap:∀j∈done,(∃s',jW P ops j=some s'/\s'.op.makes=true/\(a.put s.dst v).wants s'.guard=some true)->∃s',jW P ops j=some s'/\s'.op.makes=true/\a.wants s'.guard=some true:=λj hj ⟨s',q1,q2,q3⟩=>by
  obtain⟨p,fU,_⟩:=oz q1;exact⟨s',q1,q2,by rw[<- (Cj fU q1 λt ht=>qd t ((free j hj p fU).1 t ht)).2];exact q3⟩
 have Q3:∀j∈done,j∉S->(∃s',jW P ops j=some s'/\s'.op.makes=true/\a.wants s'.guard=some true)->al j<h.next:=λj hj hjs ⟨s',q1,q2,q3⟩=>by
  cases hp j hj hjs with
  |skip p s2 _ hs2 _ hw2 _=>rw[q1]at hs2;cases hs2;rw[q3]at hw2;cases hw2
  |lu p s2 _ hs2 _ _ hm2 _ _ _=>rw[q1]at hs2;cases hs2;rw[q2]at hm2;cases hm2
  |make p s2 _ _ _ _ _ _ _ _ _ hlt2 _ _ _=>exact hlt2
 refine⟨⟨hstep,hI.tJ⟩,λx hx=>cO _ (hI.sub x hx),?_,⟨λj=>if j=i then h.next else al j,?_,?_⟩,?_,Q0.1,hI.tK.trans Q0.2⟩
 .intro x hx hh;rcases dx.1 hx with e|hx
  .subst e;rw[hlt]at hh;cases hh
  .exact hI.Er x hx hh
 .intro j hj hjs;rcases dx.1 hj with e|hj
  .subst e;obtain⟨e1,e2⟩:=Cj (a:=a) (a2:=a.put s.dst v) ho hs λt ht=>qd t (own t ht);rcases hheap with⟨e,hm⟩|⟨q1,q2,f,ob,q3,q4,q5⟩
   .rcases hcase with⟨q1,q2,q3⟩|⟨q1,q2⟩
    .refine .skip o s ho hs hl Fc λd hd=>?_;rw[<- q2];exact Ls d hd
    .subst e;exact .lu o s ho hs hl Fc (hm q1) v (by rw[(Ci gD e1 h2).1];exact q2) Ls
   .refine .make o s ho hs hl Fc q2 f ob (by rw[(Ci gD e1 h2).2];exact q3) ?_ ?_ ?_ ?_ λd hd=>?_
    .rw[if_pos rfl];exact hI.tK.next
    .rw[if_pos rfl,q5];exact wN _
    .rw[if_pos rfl];exact hI.wr.yM
    .rw[if_pos rfl,q5,IH.jc,if_pos rfl]
    .rw[if_pos rfl,<- q4];exact Ls d hd
  .have hji:=hne j hj;cases hp j hj hjs with
   |skip p s2 fU hs2 hl2 hw hd=>
    obtain⟨f1,f2⟩:=free j hj p fU;obtain⟨_,oC,_,Et,_⟩:=oz hs2;rw[fU]at oC;cases oC;obtain⟨e1,e2⟩:=Cj fU hs2 λt ht=>qd t (f1 t ht);refine .skip p s2 fU hs2 hl2 Bs λd hdd=>?_;rw[qd d (f2 d Fi),qc];exact hd d hdd
   |lu p s2 fU hs2 hl2 hw hm u hr hd=>
    obtain⟨f1,f2⟩:=free j hj p fU;obtain⟨_,oC,Lu,Et,_⟩:=oz hs2;rw[fU]at oC;cases oC;obtain⟨e1,e2⟩:=Cj fU hs2 λt ht=>qd t (f1 t ht);refine .lu p s2 fU hs2 hl2 Bs hm u (by rw[(Ci Lu e1 h2).1];exact Zj hl2 hm hsub hr) λd hdd=>?_;rw[qd d (f2 d Fi),qc];exact hd d hdd
   |make p s2 fU hs2 hl2 hw hm f ob hr hlo hlt2 hb hg hd=>
    obtain⟨f1,f2⟩:=free j hj p fU;obtain⟨_,oC,Lu,Et,_⟩:=oz hs2;rw[fU]at oC;cases oC;obtain⟨e1,e2⟩:=Cj fU hs2 λt ht=>qd t (f1 t ht);have Eu:(if j=i then h.next else al j)=al j:=if_neg hji;refine .make p s2 fU hs2 hl2 Bs hm f ob (by rw[(Ci Lu e1 h2).2];exact hr) (by rw[Eu];exact hlo) (by rw[Eu];exact mM hlt2 hnext) (by rw[Eu];exact hb) (by rw[Eu];exact hsub _ _ hg) λd hdd=>?_;rw[qd d (f2 d Fi),qc,Eu];exact hd d hdd
 .intro x y hx hy hxs hys hxy mx my;show(if x=i then h.next else al x)≠(if y=i then h.next else al y);rcases dx.1 hx with ex|hx
  .rcases dx.1 hy with ey|hy
   .exact absurd (ex.trans ey.symm) hxy
   .rw[if_pos ex,if_neg (hne y hy)];have:=Q3 y hy hys (Ap y hy my);omega
  .rcases dx.1 hy with ey|hy
   .rw[if_neg (hne x hx),if_pos ey];have:=Q3 x hx hxs (Ap x hx mx);omega
   .rw[if_neg (hne x hx),if_neg (hne y hy)];exact hal x y hx hy hxs hys hxy (Ap x hx mx) (Ap y hy my)
 .have hA:=hI.act;refine⟨by rw[qc];exact hA.size,λt ht=>?_,λt ht=>?_,by rw[put_defers];exact hA.defers⟩
  .have hdt:o.dst≠some t:=λhd=>ht ⟨i,o,An,tN,ho,hd⟩;rw[qd t hdt];refine hA.tmps t ?_;rintro⟨y,p,hy,hys,hp',kP⟩;exact ht ⟨y,p,cO _ hy,hys,hp',kP⟩
  .rw[qc]at ht;rw[tL,if_neg (λhc=>by have:=hc.2;omega)];exact hA.out t ht
end
end Go.Ideal
namespace Go.Ideal
variable {P:Program}
def kindOf:x8 FrameMode->CallKind
 |none=>.normal
 |some _=>.deferred
structure CX(P:Program)(β:aG)(pm:Option FrameMode)(ro:Option Nat)(b:Frame)(cs:List Frame):Prop where
 fn:∃f,P.funcs[b.fn]? =some f
 round:(ro=none/\b.roundOf=none)\/∃l g,ro=some l/\β l=some g/\b.roundOf=some g.b
 kind:b.kind=kindOf pm
 mode:∀m,pm=some m->∃c rest,cs=c::rest/\MR β m c.mode
inductive nU(β':aG):Option FrameMode->Option FrameMode->List Frame->List Frame->Prop
 |none (cs:List Frame):nU β' none none cs cs
 |some (m m':FrameMode) (c:Frame) (rest:List Frame) (mr:FrameMode) (h:MR β' m' mr):nU β' (some m) (some m') (c::rest) ({c with mode:=mr}::rest)
variable{β β':aG}
def nU.mono(h:β.le β'){p q:x8 FrameMode}{cs cs':kI Frame}(k:nU β p q cs cs'):nU β' p q cs cs':=by
 cases k with
 |none cs=>exact .none cs
 |some m m' c rest mr hm=>exact .some m m' c rest mr (hm.mono h)
variable{cs cs':kI Frame}
def nU.trans{p q r:x8 FrameMode}{cs'':kI Frame}(k:nU β p q cs cs')(k2:nU β' q r cs' cs''):nU β' p r cs cs'':=by
 cases k with
 |none cs=>exact k2
 |some m m' c rest mr hm=>
  cases k2 with
  |some _ m'' _ _ Lv hm'=>exact .some m m'' c rest Lv hm'
variable{b:Frame}
def CX.start{pm:x8 FrameMode}{ro:x8 Nat}(k:CX P β pm ro b cs):nU β pm pm cs cs:=by
 cases pm with
 |none=>exact .none cs
 |some m=>
  obtain⟨c,rest,rfl,hm⟩:=k.mode m rfl;have:=nU.some (β':=β) m m c rest c.mode hm;exact this
def CX.after(hle:β.le β'){pm pm':x8 FrameMode}{ro:x8 Nat}{b:Frame}{cs cs':kI Frame}(k:CX P β pm ro b cs)(hc:nU β' pm pm' cs cs'):CX P β' pm' ro b cs' where
 fn:=k.fn
 round:=by
  rcases k.round with h|⟨l,g,h1,h2,h3⟩
  .exact .inl h
  .exact .inr ⟨l,g,h1,hle _ _ h2,h3⟩
 kind:=by
  have:=k.kind;cases hc with
  |none=>exact this
  |some=>exact this
 mode m hm:=by
  cases hc with
  |none=>cases hm
  |some m0 m' c rest mr h=>cases hm;exact⟨_,rest,rfl,h⟩
def G5(P:Program)(M:Machine)(b:Frame)(k:kI Item)(β':aG)(tm':Array vI)(gy:kI Deferred)(cs':kI Frame)(w':World):Out->Prop
 | .normal=>Steps P M (lone (fr b tm' gy k) cs' w')
 | .exit id=>∃todo,exitTo id todo=exitTo id k/\Steps P M (lone (fr b tm' gy (.code (.exit id)::todo)) cs' w')
 | .ret=>∃todo,Steps P M (lone (fr b tm' gy (.code .ret::todo)) cs' w')
 | .panic ch=>∃todo ch',ow β' ch ch'/\Steps P M (lone {fr b tm' gy todo with mode:=.panicking ch'} cs' w')
variable{M M':Machine}{k:kI Item}
def G5.of_steps{tm':Array vI}{gy:kI Deferred}{w':World}{o:Out}(h:Steps P M M')(k2:G5 P M' b k β' tm' gy cs' w' o):G5 P M b k β' tm' gy cs' w' o:=by
 cases o with
 |normal=>exact h.trans k2
 |exit id=>obtain⟨todo,h1,h2⟩:=k2;exact⟨todo,h1,h.trans h2⟩
 |ret=>obtain⟨todo,h2⟩:=k2;exact⟨todo,h.trans h2⟩
 |panic ch=>obtain⟨todo,ch',h1,h2⟩:=k2;exact⟨todo,ch',h1,h.trans h2⟩
def Post(P:Program)(β0:aG)(h0:IH)(w0:World)(jJ:x8 FrameMode)(jo:x8 Nat)(b:Frame)(cs0:kI Frame)(k:kI Item)(K:KO)(M:Machine):Prop:=
 ∃o a' h' β' w' tm' gy cs',K o a' h'/\WR P β' h' w'/\Eff β0 h0 w0 β' h' w'/\AR β' none' a' tm' gy/\nU β' jJ a'.pm cs0 cs'/\a'.ro=jo/\G5 P M b k β' tm' gy cs' w' o
def Post.of_steps{β0:aG}{h0:IH}{w0:World}{jJ:x8 FrameMode}{jo:x8 Nat}{cs0:kI Frame}{K:KO}(h:Steps P M M')(p:Post P β0 h0 w0 jJ jo b cs0 k K M'):Post P β0 h0 w0 jJ jo b cs0 k K M:=by
 obtain⟨o,a',h',β',w',tm',gy,cs',q1,q2,q3,q4,q5,q6,q7⟩:=p;exact⟨o,a',h',β',w',tm',gy,cs',q1,q2,q3,q4,q5,q6,.of_steps h q7⟩
def Lx(code:Code)(it:Item):Prop:=it=.code code\/∃body,code=.loop body/\it=.inLoop body
def lC(P:Program)(c:dI)(a:aV)(h:IH)(K:KO):Prop:=
 ∀code it,compile P code=c->Lx code it->∀β w b tm df k cs,kL P β->WR P β h w->AR β none' a tm df->CX P β a.pm a.ro b cs->
  Post P β h w a.pm a.ro b cs k K (lone (fr b tm df (it::k)) cs w)
def nV(P:Program)(ds:kI Tmp)(l:kI bV)(a:aV)(h:IH)(K:KO):Prop:=
 ∀ops bQ hv rest done S,yQ P ops bQ hv rest done l->(∀(i:Nat) o d,ops[i]? =some o->o.dst=some d->d∈ds)->
  ∀β0 h0 w0 jJ jo cs0 β w b tm df k cs ρ,kL P β0->(∀i g,β0 i=some g->i<h0.next)->CX P β0 jJ jo b cs0->Inv P ops hv bQ β0 h0 w0 done S β a h w tm df->uL ops bQ S ρ->
  nU β jJ a.pm cs0 cs->a.ro=jo->Post P β0 h0 w0 jJ jo b cs0 k K (lone (fr b tm df (.inRegion ops ρ::k)) cs w)
inductive RR(β:aG):iU->Ending->Prop
 |ok {v v':Value} (h:VR β v v'):RR β (.ok v) (.returned v')
 |fT {ch ch':List PanicEntry} (h:ow β ch ch'):RR β (.fT ch) (.panicked ch')
def entry(P:Program)(k:CallKind):Next->x8 Frame
 | .enter f args=>some (Frame.enter P f args k)
 | .round l f tmps x y=>some (Frame.round l f tmps x y k)
 |_=>none
def recv(c:Frame):Ending->Frame
 | .returned v=>c.finish v
 | .panicked ch=>c.raise ch
 | .outgrown=>c
def mQ(P:Program)(q:gM)(h:IH)(K:KR):Prop:=
 ∀β w fn' args' cap',kL P β->WR P β h w->FR β q.fn fn'->aW β q.args args'->aW β q.captured cap'->
  ∃nx F0,(invoke (.fn fn' ⟨cap'⟩) ⟨args'⟩).run P w=.ok nx w/\entry P (kindOf q.pm) nx=some F0/\
   ∀cs0,(∀m,q.pm=some m->∃c rest,cs0=c::rest/\MR β m c.mode)->∃r pm' h' β' w' r' cs1,K r pm' h'/\WR P β' h' w'/\Eff β h w β' h' w'/\RR β' r r'/\nU β' q.pm pm' cs0 cs1/\
    ((∃f args F1,nx=.enter f args/\Steps P (lone F0 cs0 w) (lone F1 cs1 w')/\F1.fn=f/\F1.kind=kindOf q.pm/\F1.going P w' r')\/
     ((q.pm=none/\∃l,q.fn=.yield l)/\∀c rest,cs1=c::rest->Steps P (lone F0 cs0 w) (lone (recv c r') rest w')))
def xz(P:Program)(cf:gV)(ts:T vI)(ds:kI Deferred)(m:FrameMode)(h:IH)(K:iU->IH->Prop):Prop:=
 ∀β w (F:Frame) cs fn,kL P β->WR P β h w->MR β m F.mode->tH β ds F.defers->(∀i,VR β (dL ts i) (F.tmps.getD i undef))->P.funcs[F.fn]? =some fn->uB P fn=some cf->
  ∃r h' β' w' F1 r',K r h'/\WR P β' h' w'/\Eff β h w β' h' w'/\RR β' r r'/\Steps P (lone F cs w) (lone F1 cs w')/\F1.kind=F.kind/\F1.fn=F.fn/\F1.going P w' r'
def mQ.call{q:gM}{h:IH}{K:KR}(hM:mQ P q h K)(hq:q.pm=none){β:aG}{w:World}{fn':Fn}{args' cap':kI vI}(hG:kL P β)(hW:WR P β h w)(hf:FR β q.fn fn')(ha:aW β q.args args')(hc:aW β q.captured cap'):
 ∃nx F0,(invoke (.fn fn' ⟨cap'⟩) ⟨args'⟩).run P w=.ok nx w/\entry P .normal nx=some F0/\
  ∀c rest,∃r h' β' w' r',K r none h'/\WR P β' h' w'/\Eff β h w β' h' w'/\RR β' r r'/\Steps P (lone F0 (c::rest) w) (lone (recv c r') rest w'):=by
 obtain⟨nx,F0,h1,h2,h3⟩:=hM β w fn' args' cap' hG hW hf ha hc;rw[hq]at h2;refine⟨nx,F0,h1,h2,λc rest=>?_⟩;obtain⟨r,pm',h',β',w',r',cs1,q1,q2,q3,q4,q5,q6⟩:=h3 (c::rest) (by rw[hq];simp);rw[hq]at q5;cases q5;refine⟨r,h',β',w',r',q1,q2,q3,q4,?_⟩;rcases q6 with⟨f,args,F1,_,s1,s2,s3,s4⟩|⟨_,s1⟩
 .rw[hq]at s3;refine s1.trans (.one ?_);cases q4 with
  |ok hv=>
   obtain⟨t1,t2,fn,t3,t4⟩:=s4;exact step_leave_returned ⟨t1,t2,s3,fn,t3,t4⟩
  |fT hch=>
   obtain⟨t1,t2,fn,t3⟩:=s4;exact step_leave_panicked ⟨t1,t2,fn,t3⟩
 .exact s1 c rest rfl
section
variable {ds:kI Tmp} {a:aV} {h:IH} {K:KO}
def Zt(hk:K .normal a h):nV P ds [] a h K:=by
 intro ops bQ hv rest done S hp hds β0 h0 w0 jJ jo cs0 β w b tm df k cs ρ hG hdom hcx hI hR hcs hro;cases rest with
 |cons i rest=>obtain⟨_,s,re,r,hl,_⟩:=hp;cases hl
 |nil=>
  obtain⟨β',w',tm',s1,s0,s2,s3,s4⟩:=Inv.finish hG hdom hp.2 b k cs ρ S β w tm hI hR;exact⟨.normal,a,h,β',w',tm',df,cs,hk,s3,s4,s2,hcs.mono s0,hro,s1⟩
variable{s:bV}{l:kI bV}
def come{ops:Array Oper}{bQ:Nat->Nat->Bool}{hv:Nat->Bool}{i:Nat}{rest done S:kI Nat}(hp:yQ P ops bQ hv (i::rest) done (s::l))(jL:hv i=true)
 {β0:aG} {h0:IH} {w0:World} (hG:kL P β0) (hdom:∀i g,β0 i=some g->i<h0.next) {β:aG} {w:World} {tm:Array vI} {df:kI Deferred} (hI:Inv P ops hv bQ β0 h0 w0 done S β a h w tm df) {ρ:kI Nat} (hR:uL ops bQ S ρ) (b:Frame) (k:kI Item) (cs:kI Frame):
 ∃o S' β' w' tm' ρ',ops[i]? =some o/\cop P o=some s.s.op/\s.s.dst=o.dst/\Steps P (lone (fr b tm df (.inRegion ops ρ::k)) cs w) (lone (fr b tm' df (.inRegion ops (i::ρ')::k)) cs w')/\β.le β'/\Inv P ops hv bQ β0 h0 w0 done S' β' a h w' tm' df/\
  uL ops bQ (i::S') ρ'/\uK ops bQ hv done i/\yQ P ops bQ hv rest (i::done) l/\(∀j,bQ i j=true->j∈S')/\(∀r,a.wants s.s.guard=some r->Region.wanted o (yielded ops tm')=r)/\kL P β'/\(∀x∈o.op.operands,VR β' (a.eval x) (Act.eval ⟨tm',df⟩ x))/\
  (∀j∈done,j∉S'->∀t,jW P ops j=some t->BP t.op=true->t∈s.re):=by
 obtain⟨hstep,s1,re,r,hl,hcs,_,hre,lS⟩:=hp;simp only[zR]at hl;obtain⟨rfl,rfl⟩:=hl;obtain⟨o,ho,gD,hdst,uM,hgd⟩:=oz hcs;obtain⟨S',β',w',tm',ρ',t1,t0,t2,t3⟩:=Inv.flush hG hdom hstep jL (λx hx hxd hxi Ch=>Zn P ops bQ hv rest (i::done) l lS i An jL x hx (by simp[hxd,hxi]) Ch) b k cs ρ S β w tm hI hR;obtain⟨r1,r2,r3,r4⟩:=t3;have Q4:∀t,t∈looks ops o->¬waits ops done S' t:=by
  rintro t ht ⟨y,p,hy,hys,hp',kP⟩;exact hys (r3 y (hstep.look o ho y hy p hp' t kP ht))
 have hG':kL P β':=hG.le (t2.tK.le hdom);refine⟨o,S',β',w',tm',ρ',ho,gD,hdst,t1,t0,t2,r4,hstep,lS,r3,λr hr=>GY hgd t2.act Q4 hr,hG',λx hx=>t2.act.eval hG' (uM x hx) λt ht=>Q4 t (Es (.inl ⟨x,hx,ht⟩)),?_⟩;intro j hj hjs t ht hrd;have hb:bQ i j=false:=by
  cases hh:bQ i j with
  |false=>rfl
  |true=>exact absurd (r3 j hh) hjs
 exact hre jL j hj (t2.Lj hj hjs) hb t ht hrd
def Zu(hw:a.wants s.s.guard=some false)(ih:nV P ds l (a.put s.s.dst sS) h K):nV P ds (s::l) a h K:=by
 intro ops bQ hv rest done S hp hds β0 h0 w0 jJ jo cs0 β w b tm df k cs ρ hG hdom hcx hI hR hcs hro;cases rest with
 |nil=>cases hp.1
 |cons i rest=>
  cases jL:hv i with
  |false=>
   obtain⟨hstep,s1,re,r,hl,hc1,hlt,_,lS⟩:=hp;simp only[zR]at hl;obtain⟨rfl,rfl⟩:=hl;obtain⟨o,ho,_⟩:=oz hc1;have hI2:=hI.ahead hstep jL ho hc1 (hlt jL) (.inl ⟨hw,rfl,rfl⟩);exact me
  |true=>
   obtain⟨o,S',β',w',tm',ρ',ho,gD,hdst,t1,t0,t2,r4,hstep,lS,hpre,hwant,hG',rG,hrr⟩:=come hp jL hG hdom hI hR b k cs;have hs:=QS (P:=P) (b:=b) (tm:=tm') (df:=df) (k:=k) (cs:=cs) (w:=w') (ops:=ops) (i:=i) (rest:=ρ') (by simp[ho,hwant _ hw]);rw[ho]at hs;simp only[iX]at hs;have hI2:=t2.sync hstep ho hpre (Eff.refl _ _ _ t2.wr.dom) t2.wr (v:=sS) (v':=undef) .skip (a2:=a.put s.s.dst sS) (λt=>by rw[hdst]) (qc _ _ _) (df2:=df) C7 (.inl rfl);exact gA
def Zv(hw:a.wants s.s.guard=some true)(v:vI)(h':IH)(hr:s.s.op.run P a.eval h=some (v,h'))
 (hre:∀r∈s.re,(a.put s.s.dst v).wants r.guard≠some false->∃u h2,r.op.run P (a.put s.s.dst v).eval h'=some (u,h2)/\∀d,r.dst=some d->dL (a.put s.s.dst v).tmps d=u)
 (ih:nV P ds l (a.put s.s.dst v) h' K):nV P ds (s::l) a h K:=by
 intro ops bQ hv rest done S hp hds β0 h0 w0 jJ jo cs0 β w b tm df k cs ρ hG hdom hcx hI hR hcs hro;cases rest with
 |nil=>cases hp.1
 |cons i rest=>
  cases jL:hv i with
  |false=>
   obtain⟨hstep,s1,re,r,hl,hc1,hlt,_,lS⟩:=hp;simp only[zR]at hl;obtain⟨rfl,rfl⟩:=hl;obtain⟨o,ho,_⟩:=oz hc1;have hI2:=hI.ahead hstep jL ho hc1 (hlt jL) (.inr ⟨hw,hr⟩);exact me
  |true=>
   obtain⟨o,S',β',w',tm',ρ',ho,gD,hdst,t1,t0,t2,r4,hstep,lS,hpre,hwant,hG',rG,hrr⟩:=come hp jL hG hdom hI hR b k cs;obtain⟨nx,w2,β2,v',g1,g2,g3,g4,g5⟩:=QO (ρ':=Act.eval ⟨tm',df⟩) gD rG hr t2.wr;have hnd:∀c,o.op≠.defer c:=by
    intro cl hcl;obtain⟨dd,op,ty,ps,af,gd⟩:=o;simp only at hcl;subst hcl;obtain⟨callee,args,ats⟩:=cl;cases callee with
    |value f=>simp only[cop,aD]at gD;rw[<- gD]at hr;cases hr
    |invoke x n=>simp[cop]at gD
    |builtin bb=>simp[cop]at gD
   have hs:=GV (P:=P) (b:=b) (k:=k) (cs:=cs) (rest:=ρ') ho (hwant _ hw) (.inr hnd) g1 g2;have hle:=g5.le t2.wr.dom;have hI2:=t2.sync hstep ho hpre g5 g4 g3 (a2:=a.put s.s.dst v) (λt=>by rw[hdst]) (qc _ _ _) (df2:=df) HI
    (.inr λj hj hjs t ht hrd hwt=>hre t (hrr j hj hjs t ht hrd) hwt)
   exact .of_steps (t1.trans (.one hs)) (ih ops bQ hv rest (i::done) (i::S') lS hds β0 h0 w0 jJ jo cs0 β2 w2 b _ df k cs ρ' hG hdom hcx hI2 r4 HJ BF)
end
end Go.Ideal
namespace Go.Ideal
section
variable (P:Program)
mutual
inductive EV:dI->aV->IH->KO->Prop
 |skip {a:aV} {h:IH} {K:KO} (hk:K .normal a h):EV .skip a h K
 |ops {ds:List Tmp} {l:List bV} {a:aV} {h:IH} {K:KO} (ho:aH ds l a h K):EV (.ops ds l) a h K
 |seq {x y:dI} {a:aV} {h:IH} {K:KO} (M:KO) (h1:EV x a h M) (h2:∀a' h',M .normal a' h'->EV y a' h' K)
   (h3:∀o a' h',M o a' h'->o≠.normal->K o a' h'):EV (.seq x y) a h K
 |LA {c:Operand} {x y:dI} {a:aV} {h:IH} {K:KO} (hc:a.eval c=.bool true) (h1:EV x a h K):EV (.cond c x y) a h K
 |LB {c:Operand} {x y:dI} {a:aV} {h:IH} {K:KO} (hc:a.eval c=.bool false) (h1:EV y a h K):EV (.cond c x y) a h K
 |block {id:Nat} {c:dI} {a:aV} {h:IH} {K:KO} (M:KO) (h1:EV c a h M) (h2:∀o a' h',M o a' h'->K (inBlock id o) a' h'):EV (.block id c) a h K
 |loop {c:dI} {a:aV} {h:IH} {K:KO} (M:KO) (h1:EV c a h M) (h2:∀a' h',M .normal a' h'->EV (.loop c) a' h' K)
   (h3:∀o a' h',M o a' h'->o≠.normal->K o a' h'):EV (.loop c) a h K
 |scope {c:dI} {a:aV} {h:IH} {K:KO} (h1:EV c a h K):EV (.scope c) a h K
 |exit {id:Nat} {a:aV} {h:IH} {K:KO} (hk:K (.exit id) a h):EV (.exit id) a h K
 |ret {a:aV} {h:IH} {K:KO} (hk:K .ret a h):EV .ret a h K
 |rangeFunc {f:Operand} {ps:List Tmp} {assign body:dI} {a:aV} {h:IH} {K:KO} (fn:Fn) (first captured:List Value)
   (hf:a.eval f=.func fn ⟨first⟩ ⟨captured⟩) (a1:aV) (h1:IH) (r:Nat)
   (hr:(a.ro=none/\a1={a with defers:={target:=.collected h.next,args:= #[]}::a.defers}/\h1=h.new (.aid true)/\r=h.next)\/
     (∃l0 r0,a.ro=some l0/\a1=a/\h1=h/\h.get l0=some (.loop r0)/\r=r0.defers))
   (M:KR)
   (hc:CALL ⟨fn,ko first [.func (.yield h1.next) #[] #[]],captured,none⟩
     (h1.new (.loop {state:=.ready,pending:=none,tmps:=a.tmps,n:=a.n,params:=ps,assign,body,defers:=r})) M)
   (hok:∀v pm h2,M (.ok v) pm h2->∃lp,h2.get h1.next=some (.loop lp)/\lp.state≠.busy/\K (lp.pending.getD .normal) a1 (h2.set h1.next (.loop {lp with state:=.exhausted})))
   (jM:∀ch pm h2,M (.fT ch) pm h2->K (.panic ch) a1 h2):EV (.rangeFunc f ps assign body) a h K
 |weaken {c:dI} {a:aV} {h:IH} {K:KO} (a0:aV) (hw:∀i,dL a0.tmps i=dU\/dL a0.tmps i=dL a.tmps i)
   (hn:a0.n=a.n/\a0.defers=a.defers/\a0.pm=a.pm/\a0.ro=a.ro) (h1:EV c a0 h K):EV c a h K
inductive aH:List Tmp->List bV->aV->IH->KO->Prop
 |nil {ds:List Tmp} {a:aV} {h:IH} {K:KO} (hk:K .normal a h):aH ds [] a h K
 |skip {ds:List Tmp} {s:bV} {l:List bV} {a:aV} {h:IH} {K:KO} (hw:a.wants s.s.guard=some false) (h1:aH ds l (a.put s.s.dst sS) h K):aH ds (s::l) a h K
 |lu {ds:List Tmp} {s:bV} {l:List bV} {a:aV} {h:IH} {K:KO} (hw:a.wants s.s.guard=some true) (v:Value) (h':IH) (hr:s.s.op.run P a.eval h=some (v,h'))
   (hs:∀r∈s.re,(a.put s.s.dst v).wants r.guard≠some false->∃u h2,r.op.run P (a.put s.s.dst v).eval h'=some (u,h2)/\∀d,r.dst=some d->dL (a.put s.s.dst v).tmps d=u)
   (h1:aH ds l (a.put s.s.dst v) h' K):aH ds (s::l) a h K
 |call {ds:List Tmp} {s:bV} {l:List bV} {a:aV} {h:IH} {K:KO} (hw:a.wants s.s.guard=some true) (q:gM) (hq:w9 s.s.op a.eval=some q) (M:KR) (hc:CALL q h M)
   (hs:∀v pm h',M (.ok v) pm h'->∀r∈s.re,(a.put s.s.dst v).wants r.guard≠some false->∃u h2,r.op.run P (a.put s.s.dst v).eval h'=some (u,h2)/\∀d,r.dst=some d->dL (a.put s.s.dst v).tmps d=u)
   (hok:∀v pm h',M (.ok v) pm h'->aH ds l (a.put s.s.dst v) h' K)
   (jM:∀ch pm h',M (.fT ch) pm h'->K (.panic ch) (forget ds a) h'):aH ds (s::l) a h K
 |Q5 {ds:List Tmp} {s:bV} {l:List bV} {a:aV} {h:IH} {K:KO} (hw:a.wants s.s.guard=some true) (ho:s.s.op=.recover) (hre:s.re=[]) (hm:a.pm=none) (hro:a.ro=none)
   (h1:aH ds l (a.put s.s.dst .nilIface) h K):aH ds (s::l) a h K
 |recoverD {ds:List Tmp} {s:bV} {l:List bV} {a:aV} {h:IH} {K:KO} (hw:a.wants s.s.guard=some true) (ho:s.s.op=.recover) (hre:s.re=[]) (m:FrameMode) (hm:a.pm=some m) (hro:a.ro=none)
   (h1:aH ds l ({a with pm:=some (jI m).2}.put s.s.dst (jI m).1) h K):aH ds (s::l) a h K
 |panic {ds:List Tmp} {s:bV} {l:List bV} {a:aV} {h:IH} {K:KO} (hw:a.wants s.s.guard=some true) (x:Operand) (ho:s.s.op=.panic x) (t:TypeId) (v:Value) (hx:a.eval x=.iface t v)
   (hk:K (.panic [{v:=.iface t v,recovered:=false}]) (forget ds a) h):aH ds (s::l) a h K
 |defer {ds:List Tmp} {s:bV} {l:List bV} {a:aV} {h:IH} {K:KO} (hw:a.wants s.s.guard=some true) (f:Operand) (args:List Operand) (ho:s.s.op=.dcall f args) (hre:s.re=[]) (hro:a.ro=none)
   (fn:Fn) (first captured:List Value) (hf:a.eval f=.func fn ⟨first⟩ ⟨captured⟩)
   (h1:aH ds l ({a with defers:={target:=.fn fn ⟨captured⟩,args:=⟨ko first (lN a.eval args)⟩}::a.defers}.put s.s.dst dU) h K):aH ds (s::l) a h K
 |next {ds:List Tmp} {s:bV} {l:List bV} {a:aV} {h:IH} {K:KO} (hw:a.wants s.s.guard=some true) (x:Operand) (ho:s.s.op=.wV x) (hre:s.re=[]) (alts:List (Value×IH))
   (ha:Ac (a.eval x) h=some alts) (h1:∀vh∈alts,aH ds l (a.put s.s.dst vh.1) vh.2 K):aH ds (s::l) a h K
inductive LEAVE:gV->T Value->List Deferred->FrameMode->IH->(iU->IH->Prop)->Prop
 |ret {cf:gV} {ts:T Value} {h:IH} {K:iU->IH->Prop} (v:Value) (hv:qB cf.results ts h=some v) (hk:K (.ok v) h):LEAVE cf ts [] .returning h K
 |fT {cf:gV} {ts:T Value} {h:IH} {K:iU->IH->Prop} (ch:List PanicEntry) (hk:K (.fT ch) h):LEAVE cf ts [] (.panicking ch) h K
 |coll {cf:gV} {ts:T Value} {args:Array Value} {ds:List Deferred} {m:FrameMode} {h:IH} {K:iU->IH->Prop} (hm:m≠.run) (r:Nat) (hr:h.get r=some (.aid true))
   (h1:LEAVE cf ts ds m (h.set r (.aid false)) K):LEAVE cf ts ({target:=.collected r,args}::ds) m h K
 |call {cf:gV} {ts:T Value} {fn:Fn} {captured args:List Value} {ds:List Deferred} {m:FrameMode} {h:IH} {K:iU->IH->Prop} (hm:m≠.run) (M:KR)
   (hc:CALL ⟨fn,args,captured,some m⟩ h M)
   (hpm:∀r pm h',M r pm h'->pm≠none)
   (hok:∀v m' h',M (.ok v) (some m') h'->LEAVE cf ts ds (yJ m') h' K)
   (jM:∀ch m' h',M (.fT ch) (some m') h'->LEAVE cf ts ds (BQ m' ch) h' K):LEAVE cf ts ({target:=.fn fn ⟨captured⟩,args:=⟨args⟩}::ds) m h K
inductive CALL:gM->IH->KR->Prop
 |enter {q:gM} {h:IH} {K:KR} (f:FuncId) (args:List Value) (ht:target P q=some (f,args)) (fn:Func) (hf:P.funcs[f]? =some fn) (cf:gV) (hcf:uB P fn=some cf)
   (M:KO) (h1:EV cf.body (Ab cf.ntmps args q.pm) h M)
   (h2:∀o a' h',M o a' h'->uC o≠none)
   (h3:∀o a' h' m,M o a' h'->uC o=some m->LEAVE cf a'.tmps a'.defers m h' λr h''=>K r a'.pm h''):CALL q h K
 |round {q:gM} {h:IH} {K:KR} (l:Nat) (hq:q.fn=.yield l) (hpm:q.pm=none) (r:oV) (hr:h.get l=some (.loop r)) (hargs:q.args.length=r.params.length)
   (M:KO) (h1:EV r.assign {n:=r.n,tmps:=uD r.n r.params q.args r.tmps,defers:=[],pm:=none,ro:=some l} h M)
   (h2:∀o a' h',M o a' h'->o=.normal/\∃r1,h'.get l=some (.loop r1)/\r1.state=.ready)
   (h3:∀a' h' r1,M .normal a' h'->h'.get l=some (.loop r1)->
     EV r.body a' (h'.set l (.loop {r1 with state:=.busy})) λo a'' h''=>∃r2,h''.get l=some (.loop r2)/\a''.defers=[]/\
      match o with
      | .panic ch=>K (.fT ch) none h''
      | .normal=>K (.ok (.bool true)) none (h''.set l (.loop {r2 with state:=.ready,pending:=none}))
      |o=>K (.ok (.bool false)) none (h''.set l (.loop {r2 with state:=.done,pending:=some o}))):CALL q h K
 |cut {q:gM} {h:IH} {K:KR} (cs:List Value) (n f:Nat) (hcs:fZ cs=true) (hne:cs≠[]) (hf:f=0\/cs.length=n*f) (M:KR) (hc:CALL q {h with low:=h.next} M) (hq:q.pm=none)
   (h1:∀r pm h',M r pm h'->pm=none/\h'.low=h.next/\∃i o c,r=.ok (.slice (some ⟨i,o,some f⟩) n c)/\h.next<=i/\(f=0->c=n)/\h'.nR i o cs.length=some cs)
   (hk:K (.ok (.slice (some ⟨h.next,0,some f⟩) n n)) none (h.new (.cells cs))):CALL q h K
 |vT {q:gM} {h:IH} {K:KR} (M:KR) (hc:CALL q h M) (hk:∀r pm h',M r pm h'->K r pm h'):CALL q h K
 |forget {q:gM} {h:IH} {K:KR} (M:KR) (hc:CALL q h M)
   (hk:∀r pm h',M r pm h'->∃h'',h''.next=h'.next/\h''.low=h'.low/\(∀i,h''.get i=h'.get i\/(h.next<=i/\h''.get i=none))/\K r pm h''):CALL q h K
 |memo {q:gM} {h:IH} {K:KR} (h0:IH) (v:Value) (hv:cK v=true) (hq:q.pm=none) (hfn:nS h0.next (.func q.fn ⟨q.args⟩ ⟨q.captured⟩)=true)
   (hnext:h0.next<=h.next) (hgl:P.globals.size<=h0.next)
   (hsub:∀i o,h0.get i=some o->i<h0.next/\h.get i=some o/\DW h0.next o=true)
   (M:KR) (hc:CALL q h0 M) (h1:∀r pm h',M r pm h'->pm=none/\r=.ok v/\h'.low=h0.next)
   (hk:K (.ok v) none h):CALL q h K
 /-- a call that is known of the model itself -/
 |real {q:gM} {h:IH} {K:KR} (hm:mQ P q h K):CALL q h K
end
end
end Go.Ideal
namespace Go.Ideal
variable {P:Program}
variable{o:Oper}{args:kI aaB}{f:aaB}
def Zw(hc:cop P o=some (.call f args)):∃cl,o.op=.call cl/\cl.callee=.value f/\cl.args.toList=args:=by
 obtain⟨dst,op,type,pos,after,guard⟩:=o;simp only[cop]at hc;repeat' split at hc
 all_goals first
  |contradiction
  |(cases hc;done)
  |(simp only[aD,reduceCtorEq]at hc;done)
  |(simp only[kg,reduceCtorEq,and_false,exists_false]at hc;done)
  |(simp only[aD,aF.call.injEq]at hc
    obtain⟨rfl,rfl⟩:=hc;exact⟨_,rfl,rfl,rfl⟩)
variable{x:aaB}
def Zx{n:String}(hc:cop P o=some (.invoke x n args)):∃cl,o.op=.call cl/\cl.callee=.invoke x n/\cl.args.toList=args:=by
 obtain⟨dst,op,type,pos,after,guard⟩:=o;simp only[cop]at hc;repeat' split at hc
 all_goals first
  |contradiction
  |(cases hc;done)
  |(simp only[aD,reduceCtorEq]at hc;done)
  |(simp only[kg,reduceCtorEq,and_false,exists_false]at hc;done)
  |(simp only[aD,aF.invoke.injEq]at hc
    obtain⟨rfl,rfl,rfl⟩:=hc;exact⟨_,rfl,rfl,rfl⟩)
def Zy(hc:cop P o=some .recover):∃cl,o.op=.call cl/\cl.callee=.builtin .recover:=by
 obtain⟨dst,op,type,pos,after,guard⟩:=o;simp only[cop]at hc;repeat' split at hc
 all_goals first
  |contradiction
  |(cases hc;done)
  |(simp only[aD,reduceCtorEq]at hc;done)
  |(simp only[kg,reduceCtorEq,and_false,exists_false]at hc;done)
  |exact⟨_,rfl,rfl⟩
def Zz(hc:cop P o=some (.panic x)):o.op=.panic x\/∃cl,o.op=.call cl/\cl.callee=.builtin .panic/\cl.args.toList=[x]:=by
 obtain⟨dst,op,type,pos,after,guard⟩:=o;simp only[cop]at hc;repeat' split at hc
 all_goals first
  |contradiction
  |(cases hc;done)
  |(simp only[aD,reduceCtorEq]at hc;done)
  |(simp only[kg,reduceCtorEq,and_false,exists_false]at hc;done)
  |(simp only[aD,aF.panic.injEq]at hc;subst hc;exact .inl rfl)
  |(simp only[aD,aF.panic.injEq]at hc;subst hc;exact .inr ⟨_,rfl,rfl,by assumption⟩)
def ZA(hc:cop P o=some (.dcall f args)):∃cl,o.op=.defer cl/\cl.callee=.value f/\cl.args.toList=args:=by
 obtain⟨dst,op,type,pos,after,guard⟩:=o;simp only[cop]at hc;repeat' split at hc
 all_goals first
  |contradiction
  |(cases hc;done)
  |(simp only[aD,reduceCtorEq]at hc;done)
  |(simp only[kg,reduceCtorEq,and_false,exists_false]at hc;done)
  |(simp only[aD,aF.dcall.injEq]at hc
    obtain⟨rfl,rfl⟩:=hc;exact⟨_,rfl,rfl,rfl⟩)
def ZB(hc:cop P o=some (.wV x)):o.op=.next x false:=by
 obtain⟨dst,op,type,pos,after,guard⟩:=o;simp only[cop]at hc;repeat' split at hc
 all_goals first
  |contradiction
  |(cases hc;done)
  |(simp only[aD,reduceCtorEq]at hc;done)
  |(simp only[kg,reduceCtorEq,and_false,exists_false]at hc;done)
  |(simp only[aD,aF.wV.injEq]at hc;subst hc;rfl)
variable{c:aF}{q:gM}{β:aG}{ρ:aaB->vI}
def ZC{ρ':aaB->vI}(hc:cop P o=some c)(hq:w9 c ρ=some q)(hρ:∀x∈o.op.operands,VR β (ρ x) (ρ' x)):
 q.pm=none/\∃fn' args' cap',FR β q.fn fn'/\aW β q.args args'/\aW β q.captured cap'/\(∀w,(execOp ρ' o).run P w=(invoke (.fn fn' ⟨cap'⟩) ⟨args'⟩).run P w)/\∃cl,o.op=.call cl:=by
 unfold w9 at hq;split at hq
 .rename_i f args;obtain⟨cl,h1,h2,h3⟩:=Zw hc;obtain⟨callee,kQ,ats⟩:=cl;simp only at h2 h3;subst h2 h3;have hops:∀x∈(Op.call {callee:=.value f,args:=kQ,argTypes:=ats}).operands,VR β (ρ x) (ρ' x):=by rw[<- h1];exact hρ
  have hf:=hops f Fk;have ha:∀x∈kQ.toList,VR β (ρ x) (ρ' x):=λx hx=>hops x Kp;split at hq
  .rename_i fn first captured xA
   simp only[aD]at hq;subst hq;rw[xA]at hf;obtain⟨fn',f',c',k1,k2,k3,k4⟩:=hf.Ak;refine⟨rfl,fn',f'++kQ.toList.map ρ',c',k1,?_,k3,λw=>?_,_,h1⟩
   .show aW β (ko first (lN ρ kQ.toList)) _;rw[jK];exact k2.append (aW.of_map ha)
   .obtain⟨dst,op,type,pos,after,guard⟩:=o;simp only at h1;subst h1;have he:(⟨f'⟩:Array vI)++kQ.map ρ'=⟨f'++kQ.toList.map ρ'⟩:=by apply Array.ext';simp
    exact ux
  .cases hq
 .rename_i x name args;obtain⟨cl,h1,h2,h3⟩:=Zx hc;obtain⟨callee,kQ,ats⟩:=cl;simp only at h2 h3;subst h2 h3;have hops:∀y∈(Op.call {callee:=.invoke x name,args:=kQ,argTypes:=ats}).operands,VR β (ρ y) (ρ' y):=by rw[<- h1];exact hρ
  have hx:=hops x Fk;have ha:∀x∈kQ.toList,VR β (ρ x) (ρ' x):=λx hx=>hops x Kp;simp only[aD]at hq;subst hq;refine⟨rfl,.method name,ρ' x::kQ.toList.map ρ',[],.method name,.cons hx (aW.of_map ha),.nil,λw=>?_,_,h1⟩;obtain⟨dst,op,type,pos,after,guard⟩:=o;simp only at h1;subst h1;have he:(#[ρ' x]:Array vI)++kQ.map ρ'=⟨ρ' x::kQ.toList.map ρ'⟩:=BH
  simp only[execOp,resolve,dG,fw,dJ,he]
 .cases hq
def ZE(hq:w9 c ρ=some q):heavy c=true:=by
 unfold w9 at hq;split at hq
 .rfl
 .rfl
 .cases hq
def ZF(d:Tmp)(ds:kI Tmp)(a:aV):forget (d::ds) a=forget ds (a.set d dU):=rfl
def LC(ds:kI Tmp):∀(a:aV),(∀i,a.n<=i->dL a.tmps i=dU)->(forget ds a).n=a.n/\(forget ds a).defers=a.defers/\(forget ds a).pm=a.pm/\(forget ds a).ro=a.ro/\(∀i,a.n<=i->dL (forget ds a).tmps i=dU)/\
 ∀t,dL (forget ds a).tmps t=dU\/(t∉ds/\dL (forget ds a).tmps t=dL a.tmps t):=by
 induction ds with
 |nil=>intro a ho;exact⟨rfl,rfl,rfl,rfl,ho,λt=>.inr ⟨An,rfl⟩⟩
 |cons d ds ih=>
  intro a ho;rw[ZF];have hput:a.set d dU=a.put (some d) dU:=rfl;have ho2:∀i,(a.set d dU).n<=i->dL (a.set d dU).tmps i=dU:=λi hi=>by
   rw[hput,qc]at hi;rw[hput,tL,if_neg (λhc=>by have:=hc.2;omega)];exact ho i hi
  obtain⟨h1,h2,h3,h4,h5,h6⟩:=ih (a.set d dU) ho2;rw[hput,qc]at h1 h5;rw[hput,put_defers]at h2;rw[hput,uN]at h3;rw[hput,uO]at h4;refine⟨h1,h2,h3,h4,h5,λt=>?_⟩;rcases h6 t with e|⟨e1,e2⟩
  .exact .inl e
  .rw[hput,tL]at e2;by_cases hd:some d=some t/\t<a.n
   .rw[if_pos hd]at e2;exact .inl e2
   .rw[if_neg hd]at e2;by_cases hdt:d=t
    .subst hdt;have hge:a.n<=d:=Nat.le_of_not_lt λhh=>hd ⟨rfl,hh⟩;exact .inl (e2.trans (ho d hge))
    .refine .inr ⟨?_,e2⟩;intro hc;rcases dx.1 hc with e|e
     .exact hdt e.symm
     .exact e1 e
def AR.forget{X:Nat->Prop}{a:aV}{tm:Array vI}{df:kI Deferred}(k:AR β X a tm df){ds:kI Tmp}(h:∀t,X t->t∈ds):AR β none' (Ideal.forget ds a) tm df:=by
 obtain⟨h1,h2,h3,h4,h5,h6⟩:=LC ds a k.out;refine⟨by rw[h1];exact k.size,λt _=>?_,by rw[h1];exact h5,by rw[h2];exact k.defers⟩;rcases h6 t with e|⟨e1,e2⟩
 .rw[e];exact .dU _
 .rw[e2];exact k.tmps t λhx=>e1 (h t hx)
section
variable {ds:kI Tmp} {a:aV} {h:IH} {K:KO}
variable{s:bV}{l:kI bV}
def Ck{ops:Array Oper}{bQ:Nat->Nat->Bool}{hv:Nat->Bool}{i:Nat}{rest done:kI Nat}(hp:yQ P ops bQ hv (i::rest) done (s::l))(hh:heavy s.s.op=true):hv i=true:=by
 obtain⟨_,s1,re,r,hl,_,hlt,_⟩:=hp;simp only[zR]at hl;obtain⟨rfl,rfl⟩:=hl;cases jL:hv i with
 |true=>rfl
 |false=>rw[hlt jL]at hh;cases hh
def ZG(hw:a.wants s.s.guard=some true)(q:gM)(hq:w9 s.s.op a.eval=some q)(M:KR)(hc:mQ P q h M)
 (hre:∀v pm h',M (.ok v) pm h'->∀r∈s.re,(a.put s.s.dst v).wants r.guard≠some false->∃u h2,r.op.run P (a.put s.s.dst v).eval h'=some (u,h2)/\∀d,r.dst=some d->dL (a.put s.s.dst v).tmps d=u)
 (ih:∀v pm h',M (.ok v) pm h'->nV P ds l (a.put s.s.dst v) h' K)
 (jM:∀ch pm h',M (.fT ch) pm h'->K (.panic ch) (forget ds a) h'):nV P ds (s::l) a h K:=by
 intro ops bQ hv rest done S hp hds β0 h0 w0 jJ jo cs0 β w b tm df k cs ρ hG hdom hcx hI hR hcs hro;cases rest with
 |nil=>cases hp.1
 |cons i rest=>
  have jL:=Ck hp (ZE hq);obtain⟨o,S',β',w',tm',ρ',ho,gD,hdst,t1,t0,t2,r4,hstep,lS,hpre,hwant,hG',rG,hrr⟩:=come hp jL hG hdom hI hR b k cs;obtain⟨ZH,fn',args',cap',k1,k2,k3,k4,cl,k5⟩:=ZC (ρ':=Act.eval ⟨tm',df⟩) gD hq rG;have hnd:∀c,o.op≠.defer c:=by rw[k5];simp
  obtain⟨nx,F0,n1,n2,n3⟩:=hc.call ZH hG' t2.wr k1 k2 k3;rw[<- k4]at n1;have henter:step P (lone (fr b tm' df (.inRegion ops (i::ρ')::k)) cs w')=.next (lone F0 (fr b tm' df (.inRegion ops (i::ρ')::k)::cs) w'):=by
   cases nx<;>simp only[entry,aD,reduceCtorEq]at n2
   .subst n2;exact Zf ho (hwant _ hw) (.inr hnd) n1
   .subst n2;exact Zg ho (hwant _ hw) (.inr hnd) n1
  obtain⟨r,h',β2,w2,r',q1,q2,q3,q4,q5⟩:=n3 (fr b tm' df (.inRegion ops (i::ρ')::k)) cs;have hle:=q3.le t2.wr.dom;cases q4 with
  | @ok v v' hvv=>
    have hfin:recv (fr b tm' df (.inRegion ops (i::ρ')::k)) (.returned v')=fr b (o8 tm' o.dst v') df (.inRegion ops ρ'::k):=by
     have:=Eo (b:=b) (tm:=tm') (df:=df) (k:=k) (ops:=ops) (i:=i) (rest:=ρ') (v:=v');rw[ho]at this;exact this
    rw[hfin]at q5;have hI2:=t2.sync hstep ho hpre q3 q2 hvv (a2:=a.put s.s.dst v) (λt=>by rw[hdst]) (qc _ _ _) (df2:=df) HI
     (.inr λj hj hjs t ht hrd hwt=>hre v none h' q1 t (hrr j hj hjs t ht hrd) hwt)
    exact .of_steps (t1.trans (.head henter q5)) (ih v none h' q1 ops bQ hv rest (i::done) (i::S') lS hds β0 h0 w0 jJ jo cs0 β2 w2 b _ df k cs ρ' hG hdom hcx hI2 r4 HJ BF)
  | @fT ch ch' hch=>
    have hx:∀t,waits ops done S' t->t∈ds:=by
     exact w7
    obtain⟨f1,f2,f3,f4,_,_⟩:=LC ds a t2.act.out;refine .of_steps (t1.trans (.head henter q5)) ⟨.panic ch,forget ds a,h',β2,w2,tm',df,cs,jM ch none h' q1,q2,t2.tK.trans q3,(t2.act.forget hx).mono hle,by rw[f3];exact(hcs.mono t0).mono hle,by rw[f4];exact hro,.inRegion ops (i::ρ')::k,ch',hch,?_⟩;exact Steps.refl P _
def ZI(hw:a.wants s.s.guard=some true)(x:aaB)(hop:s.s.op=.panic x)(t:adH)(v:vI)(hx:a.eval x=.iface t v)
 (hk:K (.panic [{v:=.iface t v,recovered:=false}]) (forget ds a) h):nV P ds (s::l) a h K:=by
 intro ops bQ hv rest done S hp hds β0 h0 w0 jJ jo cs0 β w b tm df k cs ρ hG hdom hcx hI hR hcs hro;cases rest with
 |nil=>cases hp.1
 |cons i rest=>
  have jL:=Ck hp Cd;obtain⟨o,S',β',w',tm',ρ',ho,gD,hdst,t1,t0,t2,r4,hstep,lS,hpre,hwant,hG',rG,hrr⟩:=come hp jL hG hdom hI hR b k cs;rw[hop]at gD;have hrun:∃v',VR β' v v'/\(execOp (Act.eval ⟨tm',df⟩) o).run P w'=.halt (.panic (.iface t v')) w'/\∀c,o.op≠.defer c:=by
   rcases Zz gD with h1|⟨cl,h1,h2,h3⟩
   .have hxv:=rG x (by rw[h1];simp[Op.operands]);rw[hx]at hxv;obtain⟨v',hv',he⟩:=hxv.Aj;refine⟨v',hv',?_,Dd⟩;obtain⟨dst,op,type,pos,after,guard⟩:=o;simp only at h1;subst h1;simp[execOp,he,Instr.panic]
   .obtain⟨callee,kQ,ats⟩:=cl;simp only at h2 h3;subst h2
    have hxv:=rG x (by rw[h1];simp only[Op.operands,Call.operands,yB];right;have:x∈kQ.toList:=by rw[h3];simp
                       simpa using this)
    rw[hx]at hxv;obtain⟨v',hv',he⟩:=hxv.Aj;obtain rfl:kQ= #[x]:=by apply Array.ext';exact h3
    refine⟨v',hv',?_,Dd⟩;obtain⟨dst,op,type,pos,after,guard⟩:=o;simp only at h1;subst h1;rw[yP];simp[builtin,he,Instr.panic]
  obtain⟨v',hv',hr,hnd⟩:=hrun;have hs:=Zh (P:=P) (b:=b) (k:=k) (cs:=cs) (rest:=ρ') ho (hwant _ hw) (.inr hnd) hr;have ZJ:∀t,waits ops done S' t->t∈ds:=by
   exact w7
  obtain⟨f1,f2,f3,f4,_,_⟩:=LC ds a t2.act.out;exact .of_steps (t1.trans (.one hs)) ⟨_,forget ds a,h,β',w',tm',df,cs,hk,t2.wr,t2.tK,t2.act.forget ZJ,by rw[f3];exact hcs.mono t0,by rw[f4];exact hro,.inRegion ops (i::ρ')::k,[{v:=.iface t v',recovered:=false}],.cons (.iface t hv') rfl rfl .nil,Steps.refl P _⟩
def ZK(hw:a.wants s.s.guard=some true)(f:aaB)(args:kI aaB)(hop:s.s.op=.dcall f args)(hre:s.re=[])(Ew:a.ro=none)
 (fn:Fn) (first captured:kI vI) (hf:a.eval f=.func fn ⟨first⟩ ⟨captured⟩)
 (ih:nV P ds l ({a with defers:={target:=.fn fn ⟨captured⟩,args:=⟨ko first (lN a.eval args)⟩}::a.defers}.put s.s.dst dU) h K):nV P ds (s::l) a h K:=by
 intro ops bQ hv rest done S hp hds β0 h0 w0 jJ jo cs0 β w b tm df k cs ρ hG hdom hcx hI hR hcs hro;cases rest with
 |nil=>cases hp.1
 |cons i rest=>
  have jL:=Ck hp Cd;obtain⟨o,S',β',w',tm',ρ',ho,gD,hdst,t1,t0,t2,r4,hstep,lS,hpre,hwant,hG',rG,hrr⟩:=come hp jL hG hdom hI hR b k cs;rw[hop]at gD;obtain⟨cl,h1,h2,h3⟩:=ZA gD;obtain⟨callee,kQ,ats⟩:=cl;simp only at h2 h3;subst h2 h3;have hops:∀x∈(Op.defer {callee:=.value f,args:=kQ,argTypes:=ats}).operands,VR β' (a.eval x) (Act.eval ⟨tm',df⟩ x):=by rw[<- h1];exact rG
  have xA:=hops f Fk;have LD:∀x∈kQ.toList,VR β' (a.eval x) (Act.eval ⟨tm',df⟩ x):=λx hx=>hops x Kp;rw[hf]at xA;obtain⟨fn',f',c',k1,k2,k3,k4⟩:=xA.Ak;have Ex:b.roundOf=none:=by
   exact kp
  have hr:(execOp (Act.eval ⟨tm',df⟩) o).run P w'=.ok (.defer {target:=.fn fn' ⟨c'⟩,args:=⟨f'++kQ.toList.map (Act.eval ⟨tm',df⟩)⟩}) w':=by
   obtain⟨dst,op,type,pos,after,guard⟩:=o;simp only at h1;subst h1;have he:(⟨f'⟩:Array vI)++kQ.map (Act.eval ⟨tm',df⟩)=⟨f'++kQ.toList.map (Act.eval ⟨tm',df⟩)⟩:=BH
   exact ux
  have hs:=Zi (P:=P) (b:=b) (k:=k) (cs:=cs) (rest:=ρ') ho (hwant _ hw) Ex hr;have hI2:=t2.sync hstep ho hpre (Eff.refl _ _ _ t2.wr.dom) t2.wr (v:=dU) (v':=undef) (.dU _) (a2:=({a with defers:={target:=.fn fn ⟨captured⟩,args:=⟨ko first (lN a.eval kQ.toList)⟩}::a.defers}:aV).put s.s.dst dU)
   (λt=>by rw[tL,tL,hdst]) (qc _ _ _) (df2:={target:=.fn fn' ⟨c'⟩,args:=⟨f'++kQ.toList.map (Act.eval ⟨tm',df⟩)⟩}::df) (by
     rw[put_defers];refine .fn k1 k3 ?_ t2.act.defers;rw[jK];exact k2.append (aW.of_map LD)) (.inl rfl)
  exact .of_steps (t1.trans (.one hs)) (ih ops bQ hv rest (i::done) (i::S') lS hds β0 h0 w0 jJ jo cs0 β' w' b _ _ k cs ρ' hG hdom hcx hI2 r4 (by rw[uN];exact hcs.mono t0) BF)
def Q6{o:Oper}(hc:cop P o=some .recover)(ρ:aaB->vI)(w:World):(execOp ρ o).run P w=.ok .recover w:=by
 obtain⟨cl,h1,h2⟩:=Zy hc;obtain⟨callee,kQ,ats⟩:=cl;simp only at h2;subst h2;obtain⟨dst,op,type,pos,after,guard⟩:=o;simp only at h1;subst h1;rw[yP];rfl
def ZL(hw:a.wants s.s.guard=some true)(hop:s.s.op=.recover)(hre:s.re=[])(hm:a.pm=none)(Ew:a.ro=none)(ih:nV P ds l (a.put s.s.dst .nilIface) h K):nV P ds (s::l) a h K:=by
 intro ops bQ hv rest done S hp hds β0 h0 w0 jJ jo cs0 β w b tm df k cs ρ hG hdom hcx hI hR hcs hro;cases rest with
 |nil=>cases hp.1
 |cons i rest=>
  have jL:=Ck hp Cd;obtain⟨o,S',β',w',tm',ρ',ho,gD,hdst,t1,t0,t2,r4,hstep,lS,hpre,hwant,hG',rG,hrr⟩:=come hp jL hG hdom hI hR b k cs;rw[hop]at gD;have Ex:b.roundOf=none:=by
   exact kp
  have hkind:b.kind=.normal:=by
   have h1:=hcx.kind;rw[hm]at hcs;cases hcs;exact h1
  have hs:=QT (P:=P) (b:=b) (df:=df) (k:=k) (cs:=cs) (rest:=ρ') ho (hwant _ hw) Ex (Q6 gD (Act.eval ⟨tm',df⟩) w');have htr:tryRecover (fr b tm' df (.inRegion ops (i::ρ')::k)) cs=none:=by
   have:(fr b tm' df (.inRegion ops (i::ρ')::k)).kind=.normal:=hkind;unfold tryRecover;rw[this]
  rw[htr]at hs;have hI2:=t2.sync hstep ho hpre (Eff.refl _ _ _ t2.wr.dom) t2.wr (v:=.nilIface) (v':=.nilIface) .nilIface (a2:=a.put s.s.dst .nilIface) (λt=>by rw[hdst]) (qc _ _ _) (df2:=df) C7 (.inl rfl);exact gA
def ZM{β:aG}{m:FrameMode}{c:Frame}(hm:MR β m c.mode)(rest:kI Frame):(∃v' mr,recoverD (c::rest)=some (v',{c with mode:=mr}::rest)/\VR β (jI m).1 v'/\MR β (jI m).2 mr)\/(recoverD (c::rest)=none/\(jI m).1=.nilIface/\(jI m).2=m):=by
 cases hcm:c.mode with
 |run=>rw[hcm]at hm;cases hm;right;simp[recoverD,hcm,jI]
 |returning=>rw[hcm]at hm;cases hm;right;simp[recoverD,hcm,jI]
 |panicking ch=>
  rw[hcm]at hm;cases hm with
  |panicking hp=>
   cases hp with
   |nil=>right;simp[recoverD,hcm,jI]
   | @cons e e' l l' hv hr hg hl=>
     obtain⟨ev,er,eg⟩:=e';simp only at hv hr hg;cases her:e.recovered with
     |true=>right;rw[her]at hr;subst hr;simp[recoverD,hcm,jI,her]
     |false=>
      cases Ey:e.goexit with
      |true=>right;rw[Ey]at hg;subst hg;simp[recoverD,hcm,jI,her,Ey]
      |false=>
       rw[her]at hr;rw[Ey]at hg;subst hr hg;left;refine⟨ev,.panicking ({v:=ev,recovered:=true}::l'),by simp[recoverD,hcm],?_,?_⟩
       .simp only[jI,her,Ey,Bool.or_false,cond_false];exact hv
       .simp only[jI,her,Ey,Bool.or_false,cond_false];exact .panicking (.cons hv rfl rfl hl)
def ZN(hw:a.wants s.s.guard=some true)(hop:s.s.op=.recover)(hre:s.re=[])(m:FrameMode)(hm:a.pm=some m)(Ew:a.ro=none)
 (ih:nV P ds l ({a with pm:=some (jI m).2}.put s.s.dst (jI m).1) h K):nV P ds (s::l) a h K:=by
 intro ops bQ hv rest done S hp hds β0 h0 w0 jJ jo cs0 β w b tm df k cs ρ hG hdom hcx hI hR hcs hro;cases rest with
 |nil=>cases hp.1
 |cons i rest=>
  have jL:=Ck hp Cd;obtain⟨o,S',β',w',tm',ρ',ho,gD,hdst,t1,t0,t2,r4,hstep,lS,hpre,hwant,hG',rG,hrr⟩:=come hp jL hG hdom hI hR b k cs;rw[hop]at gD;have Ex:b.roundOf=none:=by
   exact kp
  have hcs2:=hcs.mono t0;rw[hm]at hcs2;have ZO:=hcx.kind;cases hcs2 with
  |some m0 _ c0 Cm mr hmr=>
  have hkind:(fr b tm' df (.inRegion ops (i::ρ')::k)).kind=.deferred:=ZO;have hs:=QT (P:=P) (b:=b) (df:=df) (k:=k) (cs:={c0 with mode:=mr}::Cm) (rest:=ρ') ho (hwant _ hw) Ex (Q6 gD (Act.eval ⟨tm',df⟩) w');rw[tryRecover_deferred hkind]at hs;have sync:∀(v':vI),VR β' (jI m).1 v'->Inv P ops hv bQ β0 h0 w0 (i::done) (i::S') β' ({a with pm:=some (jI m).2}.put s.s.dst (jI m).1) h w' (o8 tm' o.dst v') df:=λv' hv'=>
   t2.sync hstep ho hpre (Eff.refl _ _ _ t2.wr.dom) t2.wr (v:=(jI m).1) (v':=v') hv' (a2:=({a with pm:=some (jI m).2}:aV).put s.s.dst (jI m).1)
    (λt=>by rw[tL,tL,hdst]) (qc _ _ _) (df2:=df) C7 (.inl rfl)
  rcases ZM (c:={c0 with mode:=mr}) hmr Cm with⟨v',Lv,e1,e2,e3⟩|⟨e1,e2,e3⟩
  .rw[e1]at hs;exact .of_steps (t1.trans (.one hs)) (ih ops bQ hv rest (i::done) (i::S') lS hds β0 h0 w0 (some m0) jo (c0::Cm) β' w' b _ df k _ ρ' hG hdom hcx (sync v' e2) r4 (by rw[uN];exact .some m0 _ c0 Cm Lv e3) BF)
  .rw[e1]at hs;exact .of_steps (t1.trans (.one hs)) (ih ops bQ hv rest (i::done) (i::S') lS hds β0 h0 w0 (some m0) jo (c0::Cm) β' w' b _ df k _ ρ' hG hdom hcx (sync .nilIface (by rw[e2];exact .nilIface)) r4 (by rw[uN,e3];exact .some m0 _ c0 Cm mr hmr) BF)
end
end Go.Ideal
namespace Go.Ideal
variable {P:Program}
variable{β:aG}
def ERs.filter(p:Nat->Bool){l l':kI MapEntry}(he:ERs β l l'):ERs β (l.filter λe=>p e.born) (l'.filter λe=>p e.born):=by
 induction he with
 |nil=>exact .nil
 | @cons e e' l l' hk hf hb hv hl ih=>
   simp only[Gd,hb];split
   .exact .cons hk hf hb hv ih
   .exact ih
variable{l l':kI MapEntry}
def ERs.mem(he:ERs β l l'){e':MapEntry}(hm:e'∈l'):∃e∈l,e'.key=e.key/\cK e.key=true/\e'.born=e.born/\VR β e.val e'.val:=by
 induction he with
 |nil=>simp at hm
 | @cons e e1 l l' hk hf hb hv hl ih=>
   rcases dx.1 hm with rfl|hm
   .exact⟨e,An,hk,hf,hb,hv⟩
   .obtain⟨x,hx,h⟩:=ih hm;exact⟨x,by simp[hx],h⟩
def ERs.append{r r':kI MapEntry}(he:ERs β l l')(h2:ERs β r r'):ERs β (l++r) (l'++r'):=by
 induction he with
 |nil=>exact h2
 |cons hk hf hb hv hl ih=>exact .cons hk hf hb hv ih
def ERs.all(p:Nat->Bool){l l':kI MapEntry}(he:ERs β l l'):(l'.all λe=>p e.born)=l.all λe=>p e.born:=by
 induction he with
 |nil=>rfl
 |cons hk hf hb hv hl ih=>simp only[List.all_cons,hb,ih]
def ERs.isEmpty(he:ERs β l l'):l'.isEmpty=l.isEmpty:=by cases he<;>rfl
def ZP(n:Nat)(hn:0<n)(w:World):∃k w1,(choose (.mapNext n)).run P w=.ok k w1/\k<n/\w1.heap=w.heap/\w1.os=w.os/\w1.tape=w.tape/\w1.output=w.output/\w.drawn<=w1.drawn:=by
 rw[run_choose];by_cases h:n<=1
 .exact⟨0,w,by simp[Question.forced,h],hn,rfl,rfl,rfl,rfl,bT _⟩
 .exact⟨(Question.mapNext n).cut (w.tape w.drawn (.mapNext n)),{w with drawn:=w.drawn+1},by rw[if_neg (by simp[Question.forced];omega)],zO _ hn,rfl,rfl,rfl,rfl,BI _⟩
variable{h:IH}
def ZQ{w:World}{v v':vI}{alts:kI (vI×IH)}(ha:Ac v h=some alts)(hv:VR β v v')(hW:WR P β h w)(ty:adH):
 ∃vh∈alts,∃r' w',(Instr.next v' false ty).run P w=.ok r' w'/\VR β vh.1 r'/\WR P β vh.2 w'/\Eff β h w β vh.2 w':=by
 unfold Ac at ha;split at ha
 .rename_i r;obtain⟨g,hb,hv'⟩:=hv.uJ;split at ha
  .rename_i since seen last hg;simp only[aD]at ha;subst ha;obtain⟨m',seen',o1,o2,o3,o4⟩:=hW.obj r g _ hb hg;rw[o4]at hv';have hm':m'=none:=by cases o3;rfl
   subst hm';refine⟨_,bM.2 rfl,.tuple #[.bool false],w,?_,.tuple (.cons (.bool _) .nil),hW,Eff.refl _ _ _ hW.dom⟩;subst hv';simp only[Instr.next,zM,dG,xy o1 An,dJ,fw]
  .rename_i m since seen last hg;split at ha
   .rename_i es clock hgm;obtain⟨m',seen',o1,o2,o3,o4⟩:=hW.obj r g _ hb hg;rw[o4]at hv';obtain⟨gm,K9,hm'⟩:∃gm,β m=some gm/\m'=some gm.b:=by
     exact uv
    subst hm' hv';obtain⟨es',p1,p2⟩:=hW.obj m gm _ K9 hgm;cases hc:(!seen.isEmpty&&!es.isEmpty&&es.all (λe=>Nat.ble last e.born))with
    |true=>rw[hc]at ha;cases ha
    |false=>
    rw[hc]at ha;simp only[cond_false,aD]at ha;let left:=es.filter λe=>!seen.contains e.born
    let left':=es'.filter λe=>!seen'.contains e.born
    have hcont:∀n,seen'.contains n=seen.contains n:=λn=>by rw[<- o2];simp
    have hleft:ERs β left left'.toList:=by
     have:=p2.filter (λn=>!seen.contains n);have h2:left'.toList=es'.toList.filter λe=>!seen.contains e.born:=by
      show(es'.filter λe=>!seen'.contains e.born).toList=_;rw[Array.toList_filter];simp only[hcont]
     rw[h2];exact this
    have hold:ERs β (left.filter λe=>Nat.blt e.born since) (left'.filter (·.born<since)).toList:=by
     have:=hleft.filter (λn=>Nat.blt n since);rw[Array.toList_filter];have h2:(left'.toList.filter λe=>decide (e.born<since))=left'.toList.filter λe=>Nat.blt e.born since:=by
      congr 1;funext e;rw[zP];simp[sJ]
     rw[h2];exact this
    have hnew:ERs β (left.filter λe=>Nat.ble since e.born) (left'.filter (·.born>=since)).toList:=by
     have:=hleft.filter (λn=>Nat.ble since n);rw[Array.toList_filter];have h2:(left'.toList.filter λe=>decide (e.born>=since))=left'.toList.filter λe=>Nat.ble since e.born:=by
      congr 1;funext e;rw[zP];simp[vH]
     rw[h2];exact this
    let old:=left.filter λe=>Nat.blt e.born since
    let new:=left.filter λe=>Nat.ble since e.born
    let old':=left'.filter (·.born<since)
    let new':=left'.filter (·.born>=since)
    let xB:=(if old'.isEmpty then #[none]else #[])++(old'++new').map some
    have hold':ERs β old old'.toList:=hold;have ZR:ERs β new new'.toList:=hnew;have hoe:old'.isEmpty=old.isEmpty:=by
     have:=hold'.isEmpty;rw[<- this];cases old' with|mk l=>cases l<;>rfl
    have hpos:0<xB.size:=by
     show 0<((if old'.isEmpty then #[none]else #[])++(old'++new').map some:Array (x8 MapEntry)).size;cases he:old'.isEmpty with
     |true=>simp;omega
     |false=>
      have:0<old'.size:=by
       rcases Gc old'.size with h0|h0
       .have:old'= #[]:=XF h0;rw[this]at he;simp at he
       .exact h0
      simp;omega
    obtain⟨k,w1,k1,k2,k3,k4,k5,k6,k7⟩:=ZP (P:=P) xB.size hpos w;have hW1:WR P β h w1:=hW.uH k3;have hE1:Eff β h w β h w1:=Eff.uH hW.dom k3 k4 k5 k6 k7;have hguard:(!seen'.isEmpty&&!es'.isEmpty&&es'.all (·.born>=last))=false:=by
     rw[<- hc];have e1:seen'.isEmpty=seen.isEmpty:=by rw[<- o2];cases seen' with|mk l=>cases l<;>rfl
     have e2:es'.isEmpty=es.isEmpty:=by rw[<- p2.isEmpty];cases es' with|mk l=>cases l<;>rfl
     have e3:es'.all (·.born>=last)=es.all (λe=>Nat.ble last e.born):=by
      rw[<- p2.all (λn=>Nat.ble last n),<- Array.all_toList];congr 1;funext e;rw[zP];simp[vH]
     rw[e1,e2,e3]
    have hck:xB[k]? =some xB[k]:=by simp[k2]
    have hrun:∀(x:x8 MapEntry),xB[k]? =some x->(Instr.next (.pointer (some ⟨g.b,0,none⟩)) false ty).run P w=
     (match x with
     |some e=>do setObj g.b (.mapIter (some gm.b) since (seen'.push e.born) clock);pure (.tuple #[.bool true,e.key,e.val])
     |none=>pure (.tuple #[.bool false]):Sem vI).run P w1:=λx hx=>by
     simp only[Instr.next,dG,xy o1 An,xy p1 An,dJ,hguard,vJ,if_false];have k1':=k1;simp only[xB,old',new',left']at k1' hx;simp only[dG,fw,dJ,k1',hx];cases x<;>rfl
    have hmem:xB[k]∈xB.toList:=An
    cases hx:xB[k]with
    |none=>
     rw[hx]at hmem hck;have hemp:old.isEmpty=true:=by
      rw[<- hoe];cases he:old'.isEmpty with
      |true=>rfl
      |false=>
       exfalso
       have:none∈((if old'.isEmpty then #[none]else #[])++(old'++new').map some:Array (x8 MapEntry)).toList:=hmem;rw[he]at this;simp at this
     refine⟨(.tuple #[.bool false],h),?_,.tuple #[.bool false],w1,by rw[hrun none hck];rfl,.tuple (.cons (.bool _) .nil),hW1,hE1⟩;rw[<- ha];refine je _ ?_;have:(left.filter λe=>Nat.blt e.born since).isEmpty=true:=hemp;rw[if_pos this];simp
    |some e'=>
     rw[hx]at hmem hck;have ZT:e'∈old'.toList++new'.toList:=by
      have:some e'∈((if old'.isEmpty then #[none]else #[])++(old'++new').map some:Array (x8 MapEntry)).toList:=hmem;simp only[Array.toList_append,Kh,dX,eT,aD,exists_eq_right]at this;rcases this with h1|h1
      .exfalso;split at h1<;>simp at h1
      .simpa using h1
     obtain⟨e,he,q1,q2,q3,q4⟩:=(hold'.append ZR).mem ZT;have hlt:g.b<w1.heap.size:=by
      rw[k3];exact th
     have ZU:w1.heap[g.b]? =some (.mapIter (some gm.b) since seen' last):=by rw[k3];exact o1
     obtain⟨z1,z2,z3⟩:=Ei (w:=w1) (o:=.mapIter (some gm.b) since (seen'.push e'.born) clock) hlt;obtain⟨y1,y2⟩:=hW1.write hb hg (.mapIter (some m) since (seen++[e.born]) clock) z1 z2 rfl rfl rfl (bT _)
      ⟨some gm.b,seen'.push e'.born,z3,by rw[Array.toList_push,o2,q3],o3,o4⟩
     refine⟨(.tuple #[.bool true,e.key,e.val],h.set r (.mapIter (some m) since (seen++[e.born]) clock)),?_,.tuple #[.bool true,e'.key,e'.val],_,?_,?_,y1,hE1.trans y2⟩
     .rw[<- ha];refine nA _ (eT.2 ⟨e,he,rfl⟩)
     .rw[hrun (some e') hck];simp only[dG,K7 ZU An,dJ,fw]
     .refine .tuple (.cons (.bool _) (.cons ?_ (.cons q4 .nil)));rw[q1];exact VR.free q2
   .cases ha
  .cases ha
 .cases ha
def ZV{ds:kI Tmp}{a:aV}{K:KO}{s:bV}{l:kI bV}(hw:a.wants s.s.guard=some true)(x:aaB)(hop:s.s.op=.wV x)(hre:s.re=[])(alts:kI (vI×IH))(ha:Ac (a.eval x) h=some alts)
 (ih:∀vh∈alts,nV P ds l (a.put s.s.dst vh.1) vh.2 K):nV P ds (s::l) a h K:=by
 intro ops bQ hv rest done S hp hds β0 h0 w0 jJ jo cs0 β w b tm df k cs ρ hG hdom hcx hI hR hcs hro;cases rest with
 |nil=>cases hp.1
 |cons i rest=>
  have jL:=Ck hp Cd;obtain⟨o,S',β',w',tm',ρ',ho,gD,hdst,t1,t0,t2,r4,hstep,lS,hpre,hwant,hG',rG,hrr⟩:=come hp jL hG hdom hI hR b k cs;rw[hop]at gD;have h1:=ZB gD;have hxv:=rG x (by rw[h1];simp[Op.operands]);obtain⟨vh,hm,r',w2,n1,n2,n3,n4⟩:=ZQ ha hxv t2.wr o.type;have hr:(execOp (Act.eval ⟨tm',df⟩) o).run P w'=.ok (.value r') w2:=by
   obtain⟨dst,op,type,pos,after,guard⟩:=o;simp only at h1;subst h1;exact xq n1
  have hs:=GV (P:=P) (b:=b) (k:=k) (cs:=cs) (rest:=ρ') ho (hwant _ hw) (.inr Dd) hr (.inl rfl);have hI2:=t2.sync hstep ho hpre n4 n3 n2 (a2:=a.put s.s.dst vh.1) (λt=>by rw[hdst]) (qc _ _ _) (df2:=df) C7
   (.inr λj hj hjs t ht hrd hwt=>by have:=hrr j hj hjs t ht hrd;rw[hre]at this;cases this)
  exact .of_steps (t1.trans (.one hs)) (ih vh hm ops bQ hv rest (i::done) (i::S') lS hds β0 h0 w0 jJ jo cs0 β' w2 b _ df k cs ρ' hG hdom hcx hI2 r4 (by rw[uN];exact hcs.mono t0) BF)
