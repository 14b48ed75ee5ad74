/- Part. -/
import Derived.Test.YtoilpafpgndilaaGreatIdealAJ
import Derived.Laws.BytesString
import Derived.Recover
import Derived.RangeFuncRecord
set_option linter.all false
namespace Go.Ideal
variable {P:Program} {β:aJ} {h:IH} {w:World}
def aeG(v:ah)(l:ae ah):DT (v::l)=match v,DT l with
 | .int .u8 k,some r=>some (UInt8.ofNat k.toNat::r)
 |_,_=>none:=rfl
def aeH{cs:ae ah}{bs:ae UInt8}(h:DT cs=some bs):∃ns:ae Int,cs=ns.map (Value.int .u8)/\bs=ns.map λn=>UInt8.ofNat n.toNat:=by
 induction cs generalizing bs with
 |nil=>change some []=some bs at h;simp only[aN]at h;exact⟨[],rfl,by rw[<- h];rfl⟩
 |cons v l ih=>
  rw[aeG]at h;split at h
  .rename_i k r hr;simp only[aN]at h;obtain⟨ns,h1,h2⟩:=ih hr;exact⟨k::ns,by simp[h1],by simp[<- h,h2]⟩
  .cases h
def aeI(ns:ae Int):∀(r:ByteArray),ns.foldl (λr n=>r.push (UInt8.ofNat n.toNat)) r=⟨r.data++(ns.map λn=>UInt8.ofNat n.toNat).toArray⟩:=by
 induction ns with
 |nil=>intro r;simp
 |cons n ns ih=>intro r;simp only[nC];rw[ih];simp[ByteArray.push]
def aeJ{ns:ae Int}{l':ae ah}(h:aW β (ns.map (Value.int .u8)) l'):l'=ns.map (Value.int .u8):=by
 induction ns generalizing l' with
 |nil=>cases h;rfl
 |cons n ns ih=>cases h with|cons hv hl=>rw[hv.mP,ih hl];rfl
section
variable {dst:ak Tmp} {type:aD} {pos:String} {after:Array Edge} {guard:ak (Nat×Bool)} {c:aK} {ρ ρ':ay->ah} {v:ah} {h':IH}
variable{x:ay}
def aeK{s d:aD}(hc:cop P ⟨dst,.convert s d x,type,pos,after,guard⟩=some c)(hr:c.run P ρ h=some (v,h'))(hx:VR β (ρ x) (ρ' x))(hW:WR P β h w):
 Good P β h w (execOp ρ' ⟨dst,.convert s d x,type,pos,after,guard⟩) v h':=by
 have aeL:∀y,c=.conv s d y->y=x->Good P β h w (execOp ρ' ⟨dst,.convert s d x,type,pos,after,guard⟩) v h':=by
  rintro y rfl rfl;simp only[aK.run]at hr;cases hf:dG (ρ y)with
  |false=>rw[hf]at hr;cases hr
  |true=>
   exact eA
 simp only[cop]at hc;split at hc
 .cases hc
 .rename_i e hs hd;split at hc
  .rename_i he;cases hc;simp only[aK.run]at hr;split at hr
   .rename_i n k ha;simp only[aN,dH]at hr;obtain⟨rfl,rfl⟩:=hr;rw[ha]at hx;have hx':ρ' x=.slice none n k:=by generalize ρ' x=y at hx;cases hx;rfl
    refine Good.same hW (v':=.string .empty) ?_ (.string _);have:=run_convert_bytes_string (P:=P) w s d e none n k hs he hd;simp only[execOp,hx',dM,this];simp[Conv.bytesToString]
   .rename_i i o f n k ha;split at hr
    .rename_i cs hcs;split at hr
     .rename_i bs hbs;simp only[aN,dH]at hr;obtain⟨rfl,rfl⟩:=hr;rw[ha]at hx;obtain⟨g,a,c',hg,hx',ha1,ha2,hn,hcc,hoff,_⟩:=hx.oJ;obtain⟨cs0,q1,q2⟩:=FL hcs;obtain⟨m1,m2,l',m3,m4⟩:=Lg hW hg q1 q2;obtain⟨ns,n1,n2⟩:=aeH hbs;subst n1;have hl':=aeJ m3;subst hl';have hload:(loadCells a n).run P w=.ok (ns.map (Value.int .u8)).toArray w:=by
       rcases hoff with h0|⟨h0,ha2⟩
       .have hn0:n=0:=by omega
        subst hn0;have:ns=[]:=by
         cases ns with
         |nil=>rfl
         |cons x l=>simp at m1
        subst this;simp[loadCells,loadCellsFrom]
       .obtain⟨ab,ao,as⟩:=a;simp only at ha1 ha2 h0;subst ha1 ha2 h0;have:=PT (P:=P) (w:=w) (b:=g.b) (o:=g.off+o) m1 m4;simpa using this
      refine Good.same hW (v':=.string ⟨⟨bs⟩⟩) ?_ (.string _);simp only[execOp,hx',dM,run_convert_bytes_string (P:=P) w s d e (some a) n c' hs he hd,run_bytesToString w a n c' ns hload,dR,fG,aeI,n2];have he0:ByteArray.empty.data= #[]:=rfl;rw[he0];simp
     .cases hr
    .cases hr
   .cases hr
  .cases hc
 .cases hc
 .simp only[aN]at hc;exact aeL x hc.symm rfl
 .cases hc
def aeM{t:aD}{y:ay}(hc:cop P ⟨dst,.index t x y,type,pos,after,guard⟩=some c)(hr:c.run P ρ h=some (v,h'))(hx:VR β (ρ x) (ρ' x))(hy:VR β (ρ y) (ρ' y))(hW:WR P β h w):
 Good P β h w (execOp ρ' ⟨dst,.index t x y,type,pos,after,guard⟩) v h':=by
 simp only[cop]at hc;split at hc
 .rename_i n e hu;split at hc
  .rename_i s d hs hd;cases hc;obtain⟨hs1,hs2⟩:=wK hs;simp only[aK.run]at hr;split at hr
   .rename_i cs k i ha hi;rw[ha]at hx;rw[hi]at hy;obtain⟨cs',h1,h2,hx'⟩:=hx.PU;have hy':=hy.mP;cases hb:Nat.blt i n with
    |false=>rw[hb]at hr;cases hr
    |true=>
     rw[hb]at hr;simp only[cond_true]at hr;have hlt:i<n:=tM
     have hr':h'=h/\(match kD P e with
      |true=>match jM (kw cs (i*s)) s with
       |some l=>some (.agg ⟨l⟩:ah)
       |none=>none
      |false=>lC cs (i*s))=some v:=by
      cases hagg:kD P e with
      |true=>
       rw[hagg]at hr;simp only at hr⊢;split at hr
       .rename_i l hl;have hl:jM (kw cs (i*s)) s=some l:=hl;rw[hl];exact ia
       .cases hr
      |false=>
       rw[hagg]at hr;simp only at hr⊢;split at hr
       .rename_i l hl;have hl:lC cs (i*s)=some l:=hl;rw[hl];exact ia
       .cases hr
     obtain⟨rfl,hr2⟩:=hr';obtain⟨v',p1,p2⟩:=WO hd hs1 h1 h2 hr2 w;refine Good.same hW (v':=v') ?_ p2;simp only[execOp,Instr.index,dM,gz hu,dR,hx',hy',asIntOf,fG,pF hs1];rw[if_pos ⟨s7,tc⟩];simp[pF hs1,p1]
   .cases hr
  .cases hc
 .rename_i hu;cases hc;simp only[aK.run]at hr;split at hr
  .rename_i s k i ha hi;rw[ha]at hx;rw[hi]at hy;have hx':=hx.D8;have hy':=hy.mP;split at hr
   .rename_i b hb;simp only[aN,dH]at hr;obtain⟨rfl,rfl⟩:=hr;rw[uw]at hb;refine Good.same hW (v':=.int .u8 b.toNat) ?_ (.int _ _);have hlt:i<s.size:=by
     have:=(aV.1 hb).1;exact this
    have hb2:s[i]? =some b:=by
     rw[getElem?_pos s i hlt];exact congrArg some (aV.1 hb).2
    simp only[execOp,Instr.index,dM,gz hu,dR,hx',hy',asIntOf,fG];have h0:(0:Int)<=Int.ofNat i:=s7
    rw[if_pos h0];simp only[Int.ofNat_eq_natCast,fM,hb2];rfl
   .cases hr
  .cases hr
 .cases hc
def Cj(b:Builtin)(args:Array ay)(ats:Array aD)(ρ:ay->ah):
 execOp ρ ⟨dst,.call {callee:=.builtin b,args,argTypes:=ats},type,pos,after,guard⟩=builtin b ats type (args.map λ| .const _=>true|_=>false) (args.map ρ):=rfl
variable{args:Array ay}{ats:Array aD}
def aeN(ha:args.toList=[x])(hc:cop P ⟨dst,.call {callee:=.builtin .len,args,argTypes:=ats},type,pos,after,guard⟩=some c)
 (hr:c.run P ρ h=some (v,h')) (hx:VR β (ρ x) (ρ' x)) (hW:WR P β h w):
 Good P β h w (execOp ρ' ⟨dst,.call {callee:=.builtin .len,args,argTypes:=ats},type,pos,after,guard⟩) v h':=by
 obtain rfl:args= #[x]:=wg
 rw[Cj];simp only[cop]at hc;split at hc
 .rename_i t ht;have hm:(#[x].map ρ')= #[ρ' x]:=by simp
  rw[hm];split at hc
  .rename_i hu;cases hc;simp only[aK.run]at hr;split at hr
   .rename_i s hs;simp only[aN,dH]at hr;obtain⟨rfl,rfl⟩:=hr;rw[hs]at hx;refine Good.same hW (v':=goInt s.size) ?_ (.int _ _);simp[builtin,Builtin.len_,ht,hx.D8,gz hu]
   .cases hr
  .rename_i n e hu;cases hc;simp only[aK.run,aN,dH]at hr;obtain⟨rfl,rfl⟩:=hr;refine Good.same hW (v':=goInt n) ?_ (.int _ _);simp[builtin,Builtin.len_,ht,gz hu]
  .rename_i p hu;split at hc
   .rename_i n e hu2;cases hc;simp only[aK.run,aN,dH]at hr;obtain⟨rfl,rfl⟩:=hr;refine Good.same hW (v':=goInt n) ?_ (.int _ _);simp[builtin,Builtin.len_,ht,gz hu,gz hu2]
   .cases hc
  .rename_i e hu;cases hc;simp only[aK.run]at hr;split at hr
   .rename_i a n k hs;simp only[aN,dH]at hr;obtain⟨rfl,rfl⟩:=hr;rw[hs]at hx;have hx':∃a' k',ρ' x=.slice a' n k':=by generalize ρ' x=y at hx;cases hx<;>exact⟨_,_,rfl⟩
    obtain⟨a',k',hx'⟩:=hx';refine Good.same hW (v':=goInt n) ?_ (.int _ _);simp[builtin,Builtin.len_,ht,hx',gz hu]
   .cases hr
  .rename_i kt et hu;cases hc;simp only[aK.run]at hr;split at hr
   .rename_i es hes;simp only[aN,dH]at hr;obtain⟨rfl,rfl⟩:=hr;refine Good.same hW (v':=goInt (jh es)) ?_ (.int _ _);rcases WS hW hx hes with⟨_,h2,h3⟩|⟨i,g,es',clock,clock',_,_,_,h4,h5,_,h6⟩
    .subst h3;simp[builtin,Builtin.len_,ht,h2,gz hu];rfl
    .have hsz:es'.size=jh es:=by rw[xV,<- Array.length_toList];exact h6.length
     simp[builtin,Builtin.len_,ht,h4,gz hu,Aw h5,hsz]
   .cases hr
  .cases hc
 .cases hc
def aeO(ha:args.toList=[x])(hc:cop P ⟨dst,.call {callee:=.builtin .cap,args,argTypes:=ats},type,pos,after,guard⟩=some c)
 (hr:c.run P ρ h=some (v,h')) (hx:VR β (ρ x) (ρ' x)) (hW:WR P β h w):
 Good P β h w (execOp ρ' ⟨dst,.call {callee:=.builtin .cap,args,argTypes:=ats},type,pos,after,guard⟩) v h':=by
 obtain rfl:args= #[x]:=wg
 rw[Cj];simp only[cop]at hc;split at hc
 .rename_i t ht;have hm:(#[x].map ρ')= #[ρ' x]:=by simp
  rw[hm];split at hc
  .rename_i e hu;cases hc;simp only[aK.run]at hr;split at hr
   .rename_i n k hs;simp only[aN,dH]at hr;obtain⟨rfl,rfl⟩:=hr;rw[hs]at hx;have hx':ρ' x=.slice none n k:=by generalize ρ' x=y at hx;cases hx;rfl
    refine Good.same hW (v':=goInt k) ?_ (.int _ _);simp[builtin,Builtin.cap_,ht,hx',gz hu]
   .rename_i i o n k hs;simp only[aN,dH]at hr;obtain⟨rfl,rfl⟩:=hr;rw[hs]at hx;obtain⟨g,a,c',hg,hx',_,_,_,_,_,hk⟩:=hx.oJ;have hck:c'=k:=by
     rcases hk with hk|hk
     .exact hk.2
     .have:=hk.1;simp at this;omega
    subst hck;refine Good.same hW (v':=goInt c') ?_ (.int _ _);simp[builtin,Builtin.cap_,ht,hx',gz hu]
   .cases hr
  .cases hc
 .cases hc
def WX{mx:Bool}{xs ys:ae ah}{v:ah}{h':IH}{args:ae ay}(hl:nZ ρ args=xs)(hr:(aK.DK mx args).run P ρ h=some (v,h'))(hxs:aW β xs ys)(hW:WR P β h w):
 h'=h/\VR β v v/\(cond mx (Builtin.max_ #[] 0 ⟨ys⟩) (Builtin.min_ #[] 0 ⟨ys⟩)).run P w=.ok v w:=by
 simp only[aK.run,hl]at hr;split at hr
 .rename_i j a k b;cases hk:xR j k with
  |false=>rw[hk]at hr;cases hr
  |true=>
   have:=WL hk;subst this;rw[hk]at hr;simp only[cond_true,aN,dH]at hr;obtain⟨rfl,rfl⟩:=hr;refine⟨rfl,.int _ _,?_⟩;cases hxs with
   |cons h1 h2=>cases h2 with
    |cons h2 h3=>
     cases h3;rw[h1.mP,h2.mP];cases mx
     .simp only[cond_false,Builtin.min_,List.foldlM_cons,List.foldlM_nil,Builtin.min2,wL];simp only[dM,fG,dR,pure_bind,bind_pure];congr 2;by_cases hab:a<=b
      .rw[if_neg s6];simp[hab]
      .rw[if_pos s6];simp[hab]
     .simp only[cond_true,Builtin.max_,List.foldlM_cons,List.foldlM_nil,Builtin.max2,wL];simp only[dM,fG,dR,pure_bind,bind_pure];congr 2;by_cases hab:b<=a
      .rw[if_neg s6];simp[hab]
      .rw[if_pos s6];simp[hab]
 .cases hf:iU xs with
  |false=>rw[hf]at hr;cases hr
  |true=>
   rw[hf]at hr;simp only[cond_true]at hr;split at hr
   .rename_i u hu;simp only[aN,dH]at hr;obtain⟨rfl,rfl⟩:=hr;obtain⟨h1,h2⟩:=IA hu;rw[hxs.rM hf];exact⟨rfl,VR.free h2,Cf h1 w⟩
   .cases hr
def WY{b:Builtin}(hb:b=.min\/b=.max)(hc:cop P ⟨dst,.call {callee:=.builtin b,args,argTypes:=ats},type,pos,after,guard⟩=some c)
 (hr:c.run P ρ h=some (v,h')) (hx:∀x∈args.toList,VR β (ρ x) (ρ' x)) (hW:WR P β h w):
 Good P β h w (execOp ρ' ⟨dst,.call {callee:=.builtin b,args,argTypes:=ats},type,pos,after,guard⟩) v h':=by
 rw[Cj];have hxs:aW β (nZ ρ args.toList) (args.toList.map ρ'):=aW.of_map hx;have hargs:args.map ρ'=⟨args.toList.map ρ'⟩:=by apply Array.ext';rw[Pe]
 rw[hargs];rcases hb with rfl|rfl
 .have:c=.DK false args.toList:=by
   simp only[cop]at hc;exact oc
  subst this;obtain⟨rfl,m2,m3⟩:=WX rfl hr hxs hW;refine Good.same hW (v':=v) ?_ m2;have m3:(Builtin.min_ ats type ⟨args.toList.map ρ'⟩).run P w=.ok v w:=m3;simp only[builtin,dM,m3,dR,fG]
 .have:c=.DK true args.toList:=by
   simp only[cop]at hc;exact oc
  subst this;obtain⟨rfl,m2,m3⟩:=WX rfl hr hxs hW;refine Good.same hW (v':=v) ?_ m2;have m3:(Builtin.max_ ats type ⟨args.toList.map ρ'⟩).run P w=.ok v w:=m3;simp only[builtin,dM,m3,dR,fG]
end
end Go.Ideal
namespace Go.Ideal
variable {P:Program} {β:aJ} {h:IH} {w:World}
variable{size n:Nat}{xs:ae ah}
def Lm{m:Nat}{x x':ah}(hf:pE size n x h=some xs)(hl:ql x=some m)(hnm:n<=m)(hx:VR β x x')(hW:WR P β h w):
 ∃xs',aW β xs xs'/\xs.all cellV=true/\xs.length=n*size/\(∀w1,(Builtin.lenOf x').run P w1=.ok m w1)/\∀w1:World,w1.heap=w.heap->(Builtin.firstCells size n x').run P w1=.ok ⟨xs'⟩ w1:=by
 unfold pE at hf;split at hf
 .rename_i i o f len cap;simp only[ql,aN]at hl;subst hl;obtain⟨g,a,c',hg,rfl,ha1,ha2,hn,hcc,hoff,_⟩:=hx.oJ;obtain⟨cs0,q1,q2⟩:=FL hf;obtain⟨m1,m2,l',m3,m4⟩:=Lg hW hg q1 q2;refine⟨l',m3,m2,m1,λw1=>rfl,λw1 hw1=>?_⟩;have hll:l'.length=n*size:=m3.length.trans m1;rcases hoff with h0|⟨h0,ha2⟩
  .have hn0:n=0:=by omega
   subst hn0;have:l'=[]:=by
    cases l' with
    |nil=>rfl
    |cons x l=>simp at hll
   subst this;simp[Builtin.firstCells,loadCells,loadCellsFrom]
  .obtain⟨ab,ao,as⟩:=a;simp only at ha1 ha2 h0;subst ha1 ha2 h0;exact run_firstCells_some w1 size n _ _ _ l' hll λj v hj=>by
    rw[addr_add,<- m4 j v hj];simp only[World.cell?,hw1]
 .rename_i len cap;simp only[ql,aN]at hl;subst hl;have hx':x'=.slice none len cap:=by cases hx;rfl
  rw[hx'];clear hx hx';split at hf
  .simp only[aN]at hf;subst hf;exact⟨[],.nil,rfl,s7,λ_=>rfl,λw1 _=>by simp[Builtin.firstCells]⟩
  .cases hf
 .rename_i s;simp only[ql,aN]at hl;subst hl;obtain rfl:=hx.D8;cases hsz:Nat.beq size 1 with
  |false=>rw[hsz]at hf;cases hf
  |true=>
  have hsz1:size=1:=tZ hsz;subst hsz1;rw[hsz]at hf;simp only[cond_true]at hf;rw[qJ]at hf;split at hf
  .rename_i l hl;split at hl
   .rename_i hle;simp only[aN]at hf hl;subst hf hl;have hfree:iU (nZ (λb:UInt8=>Value.int .u8 b.toNat) (s.data.toList.take n))=true:=by
     rw[zg];generalize s.data.toList.take n=l;induction l with
     |nil=>rfl
     |cons b l ih=>simp[iU,dG,cellV,ih]
    refine⟨_,aW.free hfree,xW hfree,?_,λ_=>rfl,λw1 _=>?_⟩
    .rw[zg];simp at hle⊢;omega
    .rw[zg];simp only[Builtin.firstCells,fG];congr 1;apply Array.ext';simp[ByteArray.data_extract,VJ]
   .cases hl
  .cases hf
 .cases hf
def Qe(b:Nat)(o:Nat)(vs:ae ah):(w.setCells b o vs).heap.size=w.heap.size/\(∀x,x≠b->(w.setCells b o vs).heap[x]? =w.heap[x]?)/\
 ((∃c t fz,w.heap[b]? =some (.cells c t fz)/\¬(fz.1<=c.size/\c.size<fz.2))->∃c t fz,(w.setCells b o vs).heap[b]? =some (.cells c t fz)/\¬(fz.1<=c.size/\c.size<fz.2))/\(w.setCells b o vs).tape=w.tape/\(w.setCells b o vs).os=w.os/\(w.setCells b o vs).output=w.output:=by
 refine⟨?_,?_,?_,?_,?_,?_⟩
 .induction vs generalizing o w with
  |nil=>rfl
  |cons v vs ih=>show((w.setCell ⟨b,o,none⟩ v).setCells b (o+1) vs).heap.size=_;rw[ih];simp
 .induction vs generalizing o w with
  |nil=>intro x _;rfl
  |cons v vs ih=>intro x hx;show((w.setCell ⟨b,o,none⟩ v).setCells b (o+1) vs).heap[x]? =_;rw[ih _ x hx,Go.RowKit.Below.heap_setCell _ _ _ _ hx]
 .induction vs generalizing o w with
  |nil=>exact id
  |cons v vs ih=>
   rintro⟨c,t,fz,hh,hz⟩;refine ih (w:=w.setCell ⟨b,o,none⟩ v) _ ⟨c.setIfInBounds o v,t,fz,?_,we⟩;simp[World.setCell,Array.getElem?_modify,hh]
 .induction vs generalizing o w with
  |nil=>rfl
  |cons v vs ih=>show((w.setCell ⟨b,o,none⟩ v).setCells b (o+1) vs).tape=_;rw[ih];rfl
 .exact(VH b (may:=λ_=>True) vs o w (λ_ _=>trivial)).1
 .exact(VH b (may:=λ_=>True) vs o w (λ_ _=>trivial)).2.1
variable{ats:Array aD}{ty st xt e:aD}{xd:TypeDesc}
def Qf(h0:ats[0]? =some st)(h1:ats[1]? =some xt)(hu:P.underlying st=some (.slice e))(hx:P.underlying xt=some xd)(hni:∀k,xd≠.int k)
 (hs:kz P e=some size) {base:ak Addr} {len cap n:Nat} {x:ah} (hl:∀w,(Builtin.lenOf x).run P w=.ok n w) (hle:len+n<=cap) {xs:ae ah} (hf:(Builtin.firstCells size n x).run P w=.ok ⟨xs⟩ w)
 {w':World} (hst:(match base with|some a=>storeCells (a.add (len*size)) xs|none=>pure ()).run P w=.ok () w'):
 (Builtin.append_ ats ty #[.slice base len cap,x]).run P w=.ok (.slice base (len+n) cap) w':=by
 have hz:(match xd with| .int _=>true|_=>false)=false:=CN
 simp only[Builtin.append_,h0,h1,Pf,Dy,uf,dM,gz hu,gz hx,pF hs,dR,fG,hz,ww,if_false,hl,hle,if_true,Pg,hf];cases base with
 |none=>cases hst;rfl
 |some a=>simp only[dM,hst,dR,fG]
def aeP{i:TypeInfo}{z:ah}(h0:ats[0]? =some st)(h1:ats[1]? =some xt)(hu:P.underlying st=some (.slice e))(hx:P.underlying xt=some xd)(hni:∀k,xd≠.int k)
 (hs:kz P e=some size) (hi:P.info? e=some i) (hz:i.zero=some z) (hzl:z.cells.size=size) {base:ak Addr} {len cap n:Nat} {x:ah} (hl:∀w,(Builtin.lenOf x).run P w=.ok n w) (hgt:cap<len+n)
 (hb:0<i.bytes) (hfit:(len+n)*i.bytes<=1073741824) {xs olds:ae ah} (hf:∀w1:World,w1.heap=w.heap->(Builtin.firstCells size n x).run P w1=.ok ⟨xs⟩ w1) (hfo:∀w1:World,w1.heap=w.heap->(Builtin.firstCells size len (.slice base len cap)).run P w1=.ok ⟨olds⟩ w1):
 ∃c rest,len+n<=c/\rest.length=(c - (len+n))*size/\
  (Builtin.append_ ats ty #[.slice base len cap,x]).run P w=.ok (.slice (some ⟨w.heap.size,0,none⟩) (len+n) c) {w.drew with heap:=w.heap.push (.cells ⟨olds++xs++rest⟩ e)}:=by
 have hz0:(match xd with| .int _=>true|_=>false)=false:=CN
 have hn:¬(len+n<=cap):=s6
 have hnb:len+n<=(len+n)*i.bytes:=Nat.le_mul_of_pos_right _ hb;have h63':¬(9223372036854775807<((len:Int)+(n:Int))):=s6
 have h48':¬(281474976710656<Builtin.nextslicecap (len+n) cap*i.bytes):=by
  have:=growslice_fits (need:=len+n) (old:=cap) (bytes:=i.bytes) hgt s6;omega
 refine⟨grownCap w (len+n) cap e,(Builtin.zeroCells z.cells (grownCap w (len+n) cap e - (len+n))).toList,?_,?_,?_⟩
 .unfold grownCap Question.cut;exact Ph _ _
 .simp[Builtin.zeroCells,hzl]
 .have hf':=hf w.drew rfl;have aeQ:=hfo w.drew rfl;have hsz:i.size=size:=by simpa[kz,hi]using hs
  simp[Builtin.append_,h0,h1,gz hu,gz hx,sizeOf,typeInfo,zeroValue,hi,hz,hl,hn,h63',h48',Question.forced,hz0,hsz,hf',aeQ,newRow,grownCap];have:∀Z:Array ah,((⟨olds⟩:Array ah)++((⟨xs⟩:Array ah)++Z))=⟨olds++(xs++Z.toList)⟩:=λZ=>by apply Array.ext';simp
  rw[this];rfl
def aeR{bytes:Nat}{s v:ah}{h':IH}(hr:zb size bytes s n xs h=some (v,h')):∃base len cap,s=.slice base len cap/\(len+n)*bytes<=small/\(len+n)*size<=small/\
 ((len+n<=cap/\((∃i o f,base=some ⟨i,o,f⟩/\h.storeAt i (o+len*size) xs=some h'/\v=.slice (some ⟨i,o,f⟩) (len+n) cap)\/(base=none/\n=0/\h'=h/\v=.slice none (len+n) cap)))\/
   (¬len+n<=cap/\∃old,pE size len s h=some old/\v=.slice (some ⟨h.next,0,some size⟩) (len+n) (len+n)/\
     ((∃i o,base=some ⟨i,o,some size⟩/\0<size/\h'=(h.kill i).new (.cells (lM old xs)))\/((∀i o k,base≠some ⟨i,o,some (k+1)⟩)/\h'=h.new (.cells (lM old xs)))))):=by
 unfold zb at hr;split at hr
 .rename_i base len cap;simp only at hr;cases hc:(((len.add n).mul bytes).ble small&&((len.add n).mul size).ble small&&(len.add n).ble small)with
  |false=>rw[hc]at hr;cases hr
  |true=>
   rw[hc]at hr;simp only[cond_true]at hr;simp only[eP]at hc;refine⟨base,len,cap,rfl,pq hc.1.1,pq hc.1.2,?_⟩;cases hle:Nat.ble (len.add n) cap with
   |true=>
    rw[hle]at hr;simp only[cond_true]at hr;refine .inl ⟨pq hle,?_⟩;split at hr
    .rename_i i o f;split at hr
     .rename_i h2 hst;simp only[aN,dH]at hr;obtain⟨rfl,rfl⟩:=hr;exact .inl ⟨i,o,f,rfl,hst,rfl⟩
     .cases hr
    .split at hr
     .simp only[aN,dH]at hr;obtain⟨rfl,rfl⟩:=hr;exact .inr ⟨rfl,rfl,rfl,rfl⟩
     .cases hr
   |false=>
    rw[hle]at hr;simp only[cond_false]at hr;refine .inr ⟨λhh=>?_,?_⟩
    .have:Nat.ble (len.add n) cap=true:=KE hh;rw[this]at hle;cases hle
    .split at hr
     .cases hr
     .rename_i old hold;refine⟨old,hold,?_⟩;split at hr
      .rename_i i o k;cases hb:Nat.beq (Nat.succ k) size with
       |false=>rw[hb]at hr;cases hr
       |true=>
        have hk:k+1=size:=tZ hb;rw[hb]at hr;simp only[cond_true,aN,dH]at hr;obtain⟨rfl,rfl⟩:=hr;have hk2:k.succ=size:=hk;exact⟨rfl,.inl ⟨i,o,by rw[hk2],s6,rfl⟩⟩
      .rename_i hnot;simp only[aN,dH]at hr;obtain⟨rfl,rfl⟩:=hr;exact⟨rfl,.inr ⟨λi o k hh=>hnot i o k hh,rfl⟩⟩
 .cases hr
def Qg(hW:WR P β h w){i o d:Nat}{g:je}{a:Addr}(hg:β i=some g)(ha1:a.block=g.b){vs vs':ae ah}(hoff:vs=[]\/(a.off=g.off+o/\a.spot=none)){h':IH}(hs:h.storeAt i (o+d) vs=some h')(hv:aW β vs vs')(hall:vs.all cellV=true):
 ∃w',(∀k,k=0->(storeCells (a.add d) vs' k).run P w=.ok () w')/\WR P β h' w'/\Eff β h w β h' w':=by
 obtain⟨m1,m2,m3⟩:=FM hW hg hs hv hall;refine⟨_,λk hk=>?_,m2,m3⟩;subst hk;rcases hoff with h0|⟨h0,ha2⟩
 .subst h0;cases hv;rfl
 .obtain⟨ab,ao,as⟩:=a;simp only at ha1 ha2 h0;subst ha1 ha2 h0;rw[addr_add,l5];exact m1 0 rfl
section
variable {dst:ak Tmp} {type:aD} {pos:String} {after:Array Edge} {guard:ak (Nat×Bool)} {c:aK} {ρ ρ':ay->ah} {v:ah} {h':IH}
variable{size:Nat}
def aeS{n:Nat}{x x':ah}{xs:ae ah}(hf:Al size n x h=some xs)(hl:ql x=some n)(hx:VR β x x')(hW:WR P β h w):
 ∃xs',aW β xs xs'/\xs.all cellV=true/\xs.length=n*size/\(∀w1,(Builtin.lenOf x').run P w1=.ok n w1)/\∀w1:World,w1.heap=w.heap->(Builtin.firstCells size n x').run P w1=.ok ⟨xs'⟩ w1:=by
 cases n with
 |succ k=>exact Lm (n:=k+1) hf hl (aZ _) hx hW
 |zero=>
  cases x with
  |slice a m c=>
   have e:xs=[]:=by
    have hf:some ([]:ae ah)=some xs:=hf;injection hf with hf;exact hf.symm
   subst e;have hm:m=0:=by
    simp only[ql,aN]at hl;exact hl
   subst hm;have hx':∃a' c',x'=.slice a' 0 c':=by cases hx<;>exact⟨_,_,rfl⟩
   obtain⟨a',c',rfl⟩:=hx';refine⟨[],.nil,rfl,s7,λw1=>rfl,λw1 _=>?_⟩;cases a' with
   |none=>simp[Builtin.firstCells]
   |some a'=>simp[Builtin.firstCells,loadCells,loadCellsFrom]
  |string b=>exact Lm (size:=size) (n:=0) (m:=0) (x:=.string b) hf hl (aZ _) hx hW
  |_=>cases hl
variable{ats:Array aD}{ty st xt e:aD}{i:TypeInfo}{z:ah}
def aeT{xd:TypeDesc}(h0:ats[0]? =some st)(h1:ats[1]? =some xt)(hu:P.underlying st=some (.slice e))(hxd:P.underlying xt=some xd)(hni:∀k,xd≠.int k)
 (hs:kz P e=some size) (hsp:0<size) (hi:P.info? e=some i) (hz:i.zero=some z) (hzl:z.cells.size=size) (hb:0<i.bytes) {s s' x x':ah} {n:Nat} {xs:ae ah}
 (hl:ql x=some n) (hf:Al size n x h=some xs) (hr:zb size i.bytes s n xs h=some (v,h')) (hvs:VR β s s') (FQ:VR β x x') (hW:WR P β h w):
 ∃w' β' v',(Builtin.append_ ats ty #[s',x']).run P w=.ok v' w'/\VR β' v v'/\WR P β' h' w'/\Eff β h w β' h' w':=by
 obtain⟨xs',x1,x2,x3,x4,x5⟩:=aeS hf hl FQ hW;have hxl:xs'.length=n*size:=x1.length.trans x3;obtain⟨base,len,cap,rfl,s1,s2,s3⟩:=aeR hr;unfold small at s1 s2;rcases s3 with⟨hle,hin⟩|⟨hgt,old,hold,rfl,hnew⟩
 .
  rcases hin with⟨j,o,f,rfl,hst,rfl⟩|⟨rfl,rfl,rfl,rfl⟩
  .obtain⟨g,a,c',hg,rfl,ha1,ha2,hn,hcc,hoff,hkind⟩:=hvs.oJ;have IK:xs=[]\/(a.off=g.off+o/\a.spot=none):=by
    rcases hoff with hh|hh
    .left;have:n=0:=by omega
     subst this;rw[<- j6,x3];simp
    .exact .inr hh
   obtain⟨w',p1,p2,p3⟩:=Qg hW hg ha1 IK hst x1 x2;refine⟨w',β,_,Qf h0 h1 hu hxd hni hs x4 (oH hle hcc) (x5 w rfl) (w':=w') (p1 0 rfl),?_,p2,p3⟩;rcases hkind with⟨rfl,rfl⟩|⟨rfl,k1,k2,k3⟩
   .exact .az hg ha1 hle hoff
   .exact .pW hg ha1 k3.2 hle k1 k2 k3.1 hcc (hoff.imp id (·.1))
  .have hs':s'=.slice none len cap:=by cases hvs;rfl
   subst hs';refine⟨w,β,_,Qf h0 h1 hu hxd hni hs x4 hle (x5 w rfl) (w':=w) rfl,.sl0 _ _,hW,Eff.refl _ _ _ hW.dom⟩
 .
  obtain⟨old',o1,o2,o3,_,o5⟩:=Lm hold rfl (aZ _) hvs hW;have hol:old'.length=len*size:=o1.length.trans o3;have hfresh:∀(base':ak Addr) (cap':Nat) (h2:IH),s'=.slice base' len cap'->cap'<len+n->h2.next=h.next->WR P β h2 w->Eff β h w β h2 w->h'=h2.new (.cells (lM old xs))->
   ∃w' β' v',(Builtin.append_ ats ty #[s',x']).run P w=.ok v' w'/\VR β' (.slice (some ⟨h.next,0,some size⟩) (len+n) (len+n)) v'/\WR P β' h' w'/\Eff β h w β' h' w':=by
   rintro base' cap' h2 rfl hcap hnext hW2 hE2 rfl;obtain⟨cc,rest,a1,a2,a3⟩:=aeP (ty:=ty) h0 h1 hu hxd hni hs hi hz hzl x4 hcap hb s6 x5 o5;have hcap2:(len+n)+(cc - (len+n))=cc:=s6
   have hmul:(len+n)*size+rest.length=cc*size:=by rw[a2,<- rD,hcap2]
   have hlen:(old++xs).length=(len+n)*size:=by rw[eF,o3,x3,rD]
   have hW3:WR P β h2 w.drew:=hW2.qK rfl;have Qh:Eff β h2 w β h2 w.drew:=Eff.qK hW2.dom rfl rfl rfl rfl;have hcells:=OR.Ir (P:=P) (β:=β.add h2.next ⟨w.heap.size,0,(len+n)*size,cc*size,size⟩) (w:=w.drew) (cs:=old++xs) (cs':=old'++xs') e
    ((o1.append x1).mono (aJ.xX _ hW2.zh)) (by simp[o2,x2]) rest size
   have hcells:OR P (β.add h2.next ⟨w.heap.size,0,(len+n)*size,cc*size,size⟩) ⟨w.heap.size,0,(len+n)*size,cc*size,size⟩ {w.drew with heap:=w.drew.heap.push (.cells ⟨old'++xs'++rest⟩ e)} (.cells (old++xs)):=by
    rw[hlen,hmul]at hcells;exact hcells
   obtain⟨b1,b2⟩:=hW3.alloc (.cells (old++xs)) (.cells ⟨old'++xs'++rest⟩ e) ⟨w.heap.size,0,(len+n)*size,cc*size,size⟩ rfl rfl hcells;refine⟨_,_,_,a3,?_,by rw[jW];exact b1,by rw[jW];exact(hE2.trans Qh).trans b2⟩;have hb:=aJ.l8 β h2.next ⟨w.heap.size,0,(len+n)*size,cc*size,size⟩
   rw[<- hnext];exact VR.pW (g:=⟨w.heap.size,0,(len+n)*size,cc*size,size⟩) hb rfl rfl (aZ _) hsp s7 s7 a1 (.inr rfl)
  rcases hnew with⟨j,o,rfl,_,rfl⟩|⟨WZ,rfl⟩
  .obtain⟨g,a,c',hg,rfl,ha1,ha2,hn,hcc,hoff,hkind⟩:=hvs.oJ;obtain⟨k0,k1,k2,k3,ha2⟩:g.sz=size/\0<g.sz/\o+cap*g.sz=g.len/\g.off+o+c'*g.sz=g.top/\a.spot=none:=by
    rcases hkind with hk|hk
    .have:=hk.1;simp at this;omega
    .have:=hk.1;simp at this;exact⟨this.symm,hk.2.1,hk.2.2.1,hk.2.2.2⟩
   obtain⟨cs0,hcs⟩:∃cs,h.get j=some (.cells cs):=by
    unfold pE at hold;obtain⟨cs,q|q,_⟩:=FL hold
    .exact⟨cs,q⟩
    .have:=(hW.obj j g _ hg q).2.1;omega
   have hlive:h.get j≠none:=by rw[hcs];simp
   by_cases hfit:len+n<=c'
   .
    have hof:a=⟨g.b,g.off+o,none⟩:=by
     have:a.off=g.off+o:=by rcases hoff with hh|hh<;>omega
     obtain⟨ab,ao,as⟩:=a;simp only at ha1 ha2 this;rw[ha1,ha2,this]
    subst hof;obtain⟨q1,q2,q3,q5,q6,q7⟩:=hW.obj j g _ hg hcs;rw[k0]at k1 k2 k3;have hmul:len*size+n*size=(len+n)*size:=(rD _ _ _).symm;have asW:(len+n)*size<=c'*size:=Nat.mul_le_mul_right _ hfit;have hin:∀j,j<xs'.length->g.off+o+len*size+j<g.top:=λj hj=>by omega
    have hone:∀v∈xs',v.oneCell'=true:=λv hv'=>by
     obtain⟨j,hj⟩:=iM hv';have hjl:j<xs.length:=by
      rcases uW j xs'.length with hh|hh
      .omega
      .rw[dW hh]at hj;cases hj
     obtain⟨v2,hv2,hr⟩:=x1.get (bG hjl);rw[hv2]at hj;cases hj;have hc:=(jy.1 x2) _ (wo hjl);obtain⟨a,b⟩:=hr.cellV hc;cases v<;>first|rfl|exact absurd rfl (a _)|exact absurd rfl (b _)
    have hrun:(storeCells ((⟨g.b,g.off+o,none⟩:Addr).add (len*size)) xs').run P w=.ok () (w.setCells g.b (g.off+o+len*size) xs'):=by
     rw[addr_add];have:=run_storeCells_cells (P:=P) g.b (g.off+o+len*size) xs' 0 w (λj hj=>(q5 _ (hin j hj)).1) (λj hj=>(q5 _ (hin j hj)).2) hone;simpa using this
    obtain⟨hsz,hother,hsame,D6,hos,hout⟩:=Qe (w:=w) g.b (g.off+o+len*size) xs';refine⟨_,β.add h.next ⟨g.b,g.off+o,(len+n)*size,g.top,size⟩,_,Qf h0 h1 hu hxd hni hs x4 hfit (x5 w rfl) hrun,?_,?_⟩
    .refine VR.pW (g:=⟨g.b,g.off+o,(len+n)*size,g.top,size⟩) (aJ.l8 _ _ _) rfl rfl (aZ _) hsp s7 tc hfit (.inr rfl)
    .rw[jW];have hdr:w.drawn<=(w.setCells g.b (g.off+o+len*size) xs').drawn:=by rw[Iq];exact aZ _
     refine hW.Wy hg hlive (by rw[hcs];intro cs e;cases e) (.cells (old++xs)) ⟨g.b,g.off+o,(len+n)*size,g.top,size⟩ rfl hsz hother hos D6 hout hdr ?_;have hle:=aJ.xX (β:=β) (i:=h.next) ⟨g.b,g.off+o,(len+n)*size,g.top,size⟩ hW.zh;refine⟨hsame q1,?_,?_,?_,by simp[o2,x2],?_⟩
     .show(old++xs).length=(len+n)*size;rw[eF,o3,x3,rD]
     .show g.off+o+(len+n)*size<=g.top;omega
     .intro j hj;refine⟨?_,by rw[KG];exact(q5 j hj).2⟩;by_cases hr:g.off+o+len*size<=j/\j<g.off+o+len*size+xs'.length
      .have:=Fa g.b xs' (g.off+o+len*size) w (λk hk=>(q5 _ (hin k hk)).1) (j - (g.off+o+len*size)) s6;rw[show g.off+o+len*size+(j - (g.off+o+len*size))=j by omega]at this;rw[this];simp
      .rw[BS g.b xs' (g.off+o+len*size) w ⟨g.b,j,none⟩ (λ_ _=>by simp;omega)];exact(q5 j hj).1
     .intro j v hj;show∃v',(w.setCells g.b (g.off+o+len*size) xs').cell? ⟨g.b,g.off+o+j,none⟩=some v'/\VR _ v v';by_cases hjo:j<old.length
      .rw[jL hjo]at hj;obtain⟨asX,r1,r2⟩:=FL (by unfold pE at hold;exact hold);rw[hcs]at r1;rcases r1 with r1|r1<;>cases r1
       rw[show len.mul size=len*size from rfl,qJ,qp]at r2;split at r2
       .simp only[aN]at r2;have hj2:cs0[o+j]? =some v:=by
         rw[<- r2,rE,if_pos s6,jU]at hj;exact hj
        obtain⟨v',t1,t2⟩:=q7 (o+j) v hj2;refine⟨v',?_,t2.mono hle⟩;rw[BS g.b xs' (g.off+o+len*size) w ⟨g.b,g.off+o+j,none⟩ (λ_ _=>by simp;omega)];rw[l5];exact t1
       .cases r2
      .rw[jP s6]at hj;obtain⟨v',t1,t2⟩:=x1.get hj;refine⟨v',?_,t2.mono hle⟩;have hlt:j - old.length<xs'.length:=by
        rcases uW (j - old.length) xs'.length with hh|hh
        .exact hh
        .rw[dW hh]at t1;cases t1
       have:=Fa g.b xs' (g.off+o+len*size) w (λk hk=>(q5 _ (hin k hk)).1) (j - old.length) hlt;rw[show g.off+o+len*size+(j - old.length)=g.off+o+j by omega]at this;rw[this,<- t1,bG hlt]
   .obtain⟨d1,d2⟩:=hW.drop hg;exact hfresh _ c' (h.kill j) rfl s6 rfl d1 d2 rfl
  .have hs':∃base',s'=.slice base' len cap:=by
    cases hvs with
    |sl0=>exact⟨_,rfl⟩
    |az=>exact⟨_,rfl⟩
    | @pW i' o' n' c1 c1' g' a' _ _ _ _ hz' _ _ _ _=>
      exfalso
      obtain⟨k,hk⟩:∃k,g'.sz=k+1:=⟨g'.sz - 1,s6⟩
      rw[hk]at WZ;exact WZ _ _ k rfl
   obtain⟨base',rfl⟩:=hs';exact hfresh base' cap h rfl s6 rfl hW (Eff.refl _ _ _ hW.dom) rfl
variable{k:IntKind}
def aeU(h0:ats[0]? =some st)(h1:ats[1]? =some xt)(hu:P.underlying st=some (.slice e))(hx:P.underlying xt=some (.int k))
 (hs:kz P e=some size) (hsp:0<size) (hi:P.info? e=some i) (hz:i.zero=some z) (hzl:z.cells.size=size) {m:Nat} (hm:0<m) (hb:0<i.bytes) (hfit:m*i.bytes<=1073741824):
 ∃c rest,m<=c/\rest.length=(c - m)*size/\
  (Builtin.append_ ats ty #[.slice none 0 0,.int .i64 (m:Int)]).run P w=.ok (.slice (some ⟨w.heap.size,0,none⟩) m c) {w.drew with heap:=w.heap.push (.cells ⟨(Builtin.zeroCells z.cells m).toList++rest⟩ e)}:=by
 have hnb:m<=m*i.bytes:=Nat.le_mul_of_pos_right _ hb;have h48':¬(281474976710656<Builtin.nextslicecap m 0*i.bytes):=by
  have:=growslice_fits (need:=m) (old:=0) (bytes:=i.bytes) s6 s6;omega
 have hw:IntKind.i64.wrap (m:Int)=(m:Int):=IntWalk.i64_in (m:Int) ⟨s6,s6⟩;have hbi:¬((281474976710656:Int)<(m:Int)*(i.bytes:Int)):=by
  have h2:((m*i.bytes:Nat):Int)<=1073741824:=s6
  rw[Int.natCast_mul]at h2;omega
 have hneg:¬((m:Int)<0):=s6
 have hms:¬(m*size=0):=by
  have:=Nat.mul_pos hm hsp;omega
 have hm0:¬(m=0):=s6
 have hs0:¬(size=0):=s6
 have h63':¬((9223372036854775807:Int)<(m:Int)):=s6
 refine⟨grownCap w m 0 e,(Builtin.zeroCells z.cells (grownCap w m 0 e - m)).toList,?_,?_,?_⟩
 .unfold grownCap Question.cut;exact Ph _ _
 .simp[Builtin.zeroCells,hzl]
 .have hsz:i.size=size:=by simpa[kz,hi]using hs
  simp[Builtin.append_,h0,h1,gz hu,gz hx,sizeOf,typeInfo,zeroValue,hi,hz,hw,hbi,hneg,hms,hm0,hs0,h63',h48',Question.forced,hsz,newRow,grownCap,asInt,asIntOf,Builtin.firstCells];have:∀Y Z:Array ah,Y++Z=⟨Y.toList++Z.toList⟩:=λY Z=>by apply Array.ext';simp
  rw[this];rfl
def aeV{zv:ah}{z:ae ah}(h0:ats[0]? =some st)(h1:ats[1]? =some xt)(hu:P.underlying st=some (.slice e))(hxd:P.underlying xt=some (.int k))
 (hs:kz P e=some size) (hsp:0<size) (hi:P.info? e=some i) (hz:i.zero=some zv) (hzc:zv.cells=⟨z⟩) (hfr:iU z=true) (hzl:z.length=size) (hb:0<i.bytes) {m:Nat} (hm:0<m) (hfit:m*i.bytes<=1073741824) (hW:WR P β h w):
 ∃w' β' v',(Builtin.append_ ats ty #[.slice none 0 0,.int .i64 (m:Int)]).run P w=.ok v' w'/\VR β' (.slice (some ⟨h.next,0,some size⟩) m m) v'/\WR P β' (h.new (.cells (zeros z m))) w'/\Eff β h w β' (h.new (.cells (zeros z m))) w':=by
 have hzs:zv.cells.size=size:=by rw[hzc];exact hzl
 have Iw:z≠[]:=λe=>by rw[e]at hzl;simp at hzl;omega
 obtain⟨cc,rest,a1,a2,a3⟩:=aeU (w:=w) (ty:=ty) h0 h1 hu hxd hs hsp hi hz hzs hm hb hfit;have hrow:(Builtin.zeroCells zv.cells m).toList=zeros z m:=by
  unfold Builtin.zeroCells;rw[hzc];have:=Lj z m Iw;rw[show(⟨z⟩:Array ah).size=z.length from rfl]at *;rw[this]
 rw[hrow]at a3;have hcap2:m+(cc - m)=cc:=s6
 have hlen:(zeros z m).length=m*size:=by rw[zeros_length,hzl]
 have hmul:m*size+rest.length=cc*size:=by rw[a2,<- rD,hcap2]
 have hW3:WR P β h w.drew:=hW.qK rfl;have Qh:Eff β h w β h w.drew:=Eff.qK hW.dom rfl rfl rfl rfl;have hcells:=OR.Ir (P:=P) (β:=β.add h.next ⟨w.heap.size,0,m*size,cc*size,size⟩) (w:=w.drew) (cs:=zeros z m) (cs':=zeros z m) e
  (aW.free (Ci hfr m)) (xW (Ci hfr m)) rest size
 have hcells:OR P (β.add h.next ⟨w.heap.size,0,m*size,cc*size,size⟩) ⟨w.heap.size,0,m*size,cc*size,size⟩ {w.drew with heap:=w.drew.heap.push (.cells ⟨zeros z m++rest⟩ e)} (.cells (zeros z m)):=by
  rw[hlen,hmul]at hcells;exact hcells
 obtain⟨b1,b2⟩:=hW3.alloc (.cells (zeros z m)) (.cells ⟨zeros z m++rest⟩ e) ⟨w.heap.size,0,m*size,cc*size,size⟩ rfl rfl hcells;refine⟨_,_,_,a3,?_,b1,Qh.trans b2⟩;have hb:=aJ.l8 β h.next ⟨w.heap.size,0,m*size,cc*size,size⟩
 exact VR.pW (g:=⟨w.heap.size,0,m*size,cc*size,size⟩) hb rfl rfl (aZ _) hsp s7 s7 a1 (.inr rfl)
variable{args:Array ay}{x:ay}
def aeW{s:ay}(ha:args.toList=[s,x])(hc:cop P ⟨dst,.call {callee:=.builtin .append,args,argTypes:=ats},type,pos,after,guard⟩=some c)
 (hr:c.run P ρ h=some (v,h')) (hs:VR β (ρ s) (ρ' s)) (hx:VR β (ρ x) (ρ' x)) (hW:WR P β h w):
 Good P β h w (execOp ρ' ⟨dst,.call {callee:=.builtin .append,args,argTypes:=ats},type,pos,after,guard⟩) v h':=by
 obtain rfl:args= #[s,x]:=wg
 rw[Cj];have hm:(#[s,x].map ρ')= #[ρ' s,ρ' x]:=s7
 rw[hm];simp only[cop]at hc;split at hc
 .rename_i st xt h0 h1;split at hc
  .rename_i e xd hu hxd;split at hc
   .rename_i size b z hsz hb hz;by_cases hint:∃k,xd=.int k
    .obtain⟨k,rfl⟩:=hint;have hc':c=.K4 e size (b+1) z s x:=by
      exact oc
     subst hc';obtain⟨zv,i,i1,i2,i3,i4,i5⟩:=Ch hz;obtain⟨hs1,hs2⟩:=wK hsz;have hzl:z.length=size:=by
      rw[hs1]at i5;simp only[aN]at i5;exact i5.symm
     have hib:i.bytes=b+1:=by rw[i1]at hb;simpa using hb
     simp only[aK.run]at hr;split at hr
     .rename_i n hns hnx;rw[hns]at hs;rw[hnx]at hx;have hs':ρ' s=.slice none 0 0:=by
       generalize ρ' s=q at hs;cases hs;rfl
      have hx':ρ' x=.int .i64 ((n+1:Nat):Int):=by
       generalize ρ' x=q at hx;cases hx;rfl
      rw[hs',hx'];cases hcond:(Nat.ble (Nat.mul (n+1) (b+1)) small&&Nat.ble (Nat.mul (n+1) size) small&&Nat.ble (n+1) small)with
      |false=>rw[hcond]at hr;cases hr
      |true=>
       rw[hcond]at hr;simp only[cond_true,aN,dH]at hr;obtain⟨rfl,rfl⟩:=hr;simp only[eP]at hcond;have hfit:=pq hcond.1.1;obtain⟨w',β',v',r1,r2,r3,r4⟩:=aeV (ty:=type) h0 h1 hu hxd hs1 hs2 i1 i2 i3 i4 hzl s6 (m:=n+1) s6 (by rw[hib];exact hfit) hW;exact rB
     .cases hr
    have hni:∀k,xd≠.int k:=λk e=>hint ⟨k,e⟩;have hc':c=.append e size (b+1) s x:=by
     split at hc
     .exact absurd rfl (hni _)
     .exact oc
    subst hc';obtain⟨zv,i,i1,i2,i3,i4,i5⟩:=Ch hz;obtain⟨hs1,hs2⟩:=wK hsz;have hzl:zv.cells.size=size:=by
     rw[hs1]at i5;simp only[aN]at i5;rw[i3,i5];rfl
    have hib:i.bytes=b+1:=by rw[i1]at hb;simpa using hb
    simp only[aK.run]at hr;split at hr
    .rename_i n hn;split at hr
     .rename_i xs hxs;rw[<- hib]at hr;obtain⟨w',β',v',r1,r2,r3,r4⟩:=aeT (ty:=type) h0 h1 hu hxd hni hs1 hs2 i1 i2 hzl s6 hn hxs hr hs hx hW;exact rB
     .cases hr
    .cases hr
   .cases hc
  .cases hc
 .cases hc
def aeX{d:ay}(ha:args.toList=[d,x])(hc:cop P ⟨dst,.call {callee:=.builtin .copy,args,argTypes:=ats},type,pos,after,guard⟩=some c)
 (hr:c.run P ρ h=some (v,h')) (hd:VR β (ρ d) (ρ' d)) (hx:VR β (ρ x) (ρ' x)) (hW:WR P β h w):
 Good P β h w (execOp ρ' ⟨dst,.call {callee:=.builtin .copy,args,argTypes:=ats},type,pos,after,guard⟩) v h':=by
 obtain rfl:args= #[d,x]:=wg
 rw[Cj];have hm:(#[d,x].map ρ')= #[ρ' d,ρ' x]:=s7
 rw[hm];simp only[cop]at hc;split at hc
 .rename_i dt h0;split at hc
  .rename_i e hu;cases hsz:pU P e with
   |none=>simp[hsz]at hc
   |some size=>
    simp only[hsz,lq,aN]at hc;subst hc;obtain⟨hs1,hs2⟩:=wK hsz;simp only[aK.run]at hr;unfold Wm at hr;split at hr
    .rename_i base qG aeY m hdv hl;simp only at hr;split at hr
     .cases hr
     .rename_i cs hcs;have hn:(cond (Nat.ble m qG) m qG)=Nat.min m qG:=by
       cases hb:Nat.ble m qG with
       |true=>have:=pq hb;show m=min m qG;omega
       |false=>
        have:¬m<=qG:=λhh=>by rw[KE hh]at hb;cases hb
        show qG=min m qG;omega
      rw[hn]at hr hcs;obtain⟨cs',x1,x2,x3,x4,x5⟩:=Lm hcs hl (Nat.min_le_left _ _) hx hW;rw[hdv]at hd;have hmn:m.min qG=min m qG:=rfl;split at hr
      .rename_i i o f;split at hr
       .rename_i h2 hst;simp only[aN,dH]at hr;obtain⟨rfl,rfl⟩:=hr;obtain⟨g,a,c',hg,hd',ha1,ha2,hnc,hcc,hoff,_⟩:=hd.oJ;have IK:cs=[]\/(a.off=g.off+o/\a.spot=none):=by
         rcases hoff with hh|hh
         .left;have h00:m.min qG=0:=by rw[hmn];omega
          rw[h00]at x3;rw[<- j6,x3];simp
         .exact .inr hh
        obtain⟨w',p1,p2,p3⟩:=Qg (d:=0) hW hg ha1 IK hst x1 x2;have p1:=p1 0 rfl;have hadd:a.add 0=a:=by
         simp[Addr.add]
        rw[hadd]at p1;refine⟨.value (goInt (m.min qG)),w',β,_,?_,.inl rfl,.int _ _,p2,p3⟩;simp only[builtin];refine Au ?_;simp only[Builtin.copy_,h0,Pf,Dy,uf,hd',dM,gz hu,dR,x4,pF hs1,x5 w rfl,p1,fG]
       .cases hr
      .split at hr
       .rename_i hn0;simp only[aN,dH]at hr;obtain⟨rfl,rfl⟩:=hr;have hd':ρ' d=.slice none qG aeY:=by generalize ρ' d=y at hd;cases hd;rfl
        refine Good.same hW (v':=goInt (m.min qG)) ?_ (by rw[hn0];exact .int _ _);simp only[builtin];refine Au ?_;simp only[Builtin.copy_,h0,Pf,Dy,uf,hd',dM,gz hu,dR,x4,pF hs1,x5 w rfl,fG]
       .cases hr
    .cases hr
  .cases hc
 .cases hc
def aeZ(ha:args.toList=[x])(hc:cop P ⟨dst,.call {callee:=.builtin .clear,args,argTypes:=ats},type,pos,after,guard⟩=some c)
 (hr:c.run P ρ h=some (v,h')) (hx:VR β (ρ x) (ρ' x)) (hW:WR P β h w):
 Good P β h w (execOp ρ' ⟨dst,.call {callee:=.builtin .clear,args,argTypes:=ats},type,pos,after,guard⟩) v h':=by
 obtain rfl:args= #[x]:=wg
 rw[Cj];have hm:(#[x].map ρ')= #[ρ' x]:=s7
 rw[hm];simp only[cop]at hc;split at hc
 .rename_i t h0;split at hc
  .rename_i e hu;split at hc
   .rename_i z zs hz;simp only[aN]at hc;subst hc;obtain⟨zv,i,hi,hzv,hzc,hfr,_⟩:=Ch hz;simp only[aK.run]at hr;split at hr
    .rename_i j o f n c hxv;split at hr
     .rename_i h2 hst;simp only[aN,dH]at hr;obtain⟨rfl,rfl⟩:=hr;rw[hxv]at hx;obtain⟨g,a,c',hg,hx',ha1,ha2,hnc,hcc,hoff,_⟩:=hx.oJ;have IK:zeros (z::zs) (n+1)=[]\/(a.off=g.off+o/\a.spot=none):=by
       rcases hoff with hh|hh
       .omega
       .exact .inr hh
      obtain⟨w',p1,p2,p3⟩:=Qg (d:=0) hW hg ha1 IK hst (aW.free (Ci hfr (n+1))) (xW (Ci hfr (n+1)));have p1:=p1 0 rfl;have hadd:a.add 0=a:=by
       simp[Addr.add]
      rw[hadd]at p1;have hrow:(Builtin.zeroCells zv.cells (n+1)).toList=zeros (z::zs) (n+1):=by
       unfold Builtin.zeroCells;rw[hzc];have:=Lj (z::zs) (n+1) s7;rw[show(⟨z::zs⟩:Array ah).size=(z::zs).length from rfl]at *;rw[this]
      refine⟨.value (.tuple #[]),w',β,_,?_,.inl rfl,.dX _,p2,p3⟩;simp only[builtin];refine Au ?_;simp only[Builtin.clear_,h0,Pf,Dy,hx',dM,gz hu,dR,zeroValue,typeInfo,hi,hzv,run_program,fG,hrow,p1]
     .cases hr
    .rename_i base c hxv;simp only[aN,dH]at hr;obtain⟨rfl,rfl⟩:=hr;rw[hxv]at hx;have hx':∃base' c',ρ' x=.slice base' 0 c':=by
      generalize ρ' x=y at hx;cases hx<;>exact⟨_,_,rfl⟩
     obtain⟨base',c',hx'⟩:=hx';refine Good.same hW (v':=.tuple #[]) ?_ (.dX _);simp only[builtin];refine Au ?_;cases base'<;>simp only[Builtin.clear_,h0,Pf,Dy,hx',dM,gz hu,dR,fG]
    .cases hr
   .cases hc
  .cases hc
 .cases hc
end
end Go.Ideal
namespace Go.Ideal
variable {P:Program} {β:aJ} {h:IH} {w:World}
variable{v:ah}{h':IH}
def W9{x:ak ((Nat->ah)×dL)}(hr:uj x h=some (v,h')):∃f ob,x=some (f,ob)/\v=f h.next/\h'=h.new ob:=by
 unfold uj at hr;split at hr
 .rename_i f o;simp only[aN,dH]at hr;exact⟨f,o,rfl,hr.1.symm,hr.2.symm⟩
 .cases hr
def aK.makes:aK->Bool
 | .new .. | .box .. | .Aj .. | .za| .xQ .. =>true
 |_=>false
variable{c:aK}
def aK.Xa(hm:c.makes=true)(ρ:ay->ah)(h:IH):c.run P ρ h=uj (c.alloc ρ) h:=by
 cases c<;>first|rfl|cases hm
variable{o:Oper}{ρ ρ':ay->ah}
def Xb{f:Nat->ah}{ob:dL}(hm:c.makes=true)(hc:cop P o=some c)(hρ:∀x∈o.op.operands,VR β (ρ x) (ρ' x))(ha:c.alloc ρ=some (f,ob)):xY P β w (execOp ρ' o) f ob:=by
 obtain⟨dst,op,type,pos,after,guard⟩:=o;cases op
 case alloc e=>exact ad3 hc ha
 case box e x=>exact ad4 hc ha (hρ x ta)
 case buildSlice t n ps=>exact ad9 hc ha λp hp=>hρ p.2 xf
 case makeMap t r=>exact ad5 hc ha
 case makeSlice t l k=>exact ad7 hc ha (hρ l ta) (hρ k ta)
 case next it s=>
  cases s with
  |true=>simp[cop]at hc
  |false=>simp only[cop,aN]at hc;subst hc;cases hm
 all_goals
  exfalso
  revert hm;simp only[cop]at hc;repeat' split at hc
  all_goals first
   |contradiction
   |(cases hc;done)
   |(simp only[aN,kg,reduceCtorEq,false_and,and_false,exists_false]at hc;done)
   |(simp only[aN]at hc;subst hc;intro hm;cases hm)
   |(simp only[kg]at hc;obtain⟨_,_,rfl⟩:=hc;intro hm;cases hm)
def Xc(hc:cop P o=some c)(hρ:∀x∈o.op.operands,VR β (ρ x) (ρ' x))(hr:c.run P ρ h=some (v,h'))(hW:WR P β h w):
 Good P β h w (execOp ρ' o) v h':=by
 by_cases hm:c.makes=true
 .rw[aK.Xa hm]at hr;obtain⟨f,ob,ha,rfl,rfl⟩:=W9 hr;exact(Xb hm hc hρ ha).good hW
 obtain⟨dst,op,type,pos,after,guard⟩:=o;cases op
 case move x=>exact aea hc hr (hρ x ta) hW
 case assign x=>exact aeb hc hr (hρ x ta) hW
 case pick x y z=>exact aec hc hr (hρ x ta) (hρ y ta) (hρ z ta) hW
 case build t ps=>exact aee hc hr (λp hp=>hρ p.2 xf) hW
 case load t a=>exact aef hc hr (hρ a ta) hW
 case store t a x=>exact aeg hc hr (hρ a ta) (hρ x ta) hW
 case nilCheck x=>exact aeh hc hr (hρ x ta) hW
 case binOp op t x y yt=>exact aek hc hr (hρ x ta) (hρ y ta) hW
 case unOp op t x=>exact ael hc hr (hρ x ta) hW
 case convert s d x=>exact aeK hc hr (hρ x ta) hW
 case makeInterface t x=>exact aem hc hr (hρ x ta) hW
 case makeFunc fn first captured=>exact aen hc hr (λx hx=>hρ x Hh) (λx hx=>hρ x Hi) hW
 case slice t x lo hi mx=>exact aet hc hr (hρ x ta) (λy hy=>hρ y ur) (λy hy=>hρ y ur) (λy hy=>hρ y ur) hW
 case fieldAddr s x f=>exact aep hc hr (hρ x ta) hW
 case field t x f=>exact aeq hc hr (hρ x ta) hW
 case indexAddr t x y=>exact aer hc hr (hρ x ta) (hρ y ta) hW
 case index t x y=>exact aeM hc hr (hρ x ta) (hρ y ta) hW
 case lookup t m k ok=>exact aez hc hr (hρ m ta) (hρ k ta) hW
 case mapUpdate t m k x=>exact aeB hc hr (hρ m ta) (hρ k ta) (hρ x ta) hW
 case insert t m k x=>exact aeC hc hr (hρ m ta) (hρ k ta) (hρ x ta) hW
 case range t x=>exact aeD hc hr (hρ x ta) hW
 case entry x=>exact aeE hc hr (hρ x ta) hW
 case typeAssert x xt t ok=>exact aeF hc hr (hρ x ta) hW
 case extract x i=>exact aes hc hr (hρ x ta) hW
 case next it s=>
  cases s with
  |true=>simp[cop]at hc
  |false=>simp only[cop,aN]at hc;subst hc;cases hr
 case panic x=>simp only[cop,aN]at hc;subst hc;cases hr
 case defer cl=>
  obtain⟨callee,args,ats⟩:=cl;cases callee with
  |value f=>simp only[cop,aN]at hc;subst hc;cases hr
  |invoke x n=>simp[cop]at hc
  |builtin b=>simp[cop]at hc
 case call cl=>
  obtain⟨callee,args,ats⟩:=cl;cases callee with
  |value f=>simp only[cop,aN]at hc;subst hc;cases hr
  |invoke x n=>simp only[cop,aN]at hc;subst hc;cases hr
  |builtin b=>
   have hargs:∀x∈args.toList,VR β (ρ x) (ρ' x):=λx hx=>hρ x GS;cases b
   case append=>
    cases ha:args.toList with
    |nil=>simp[cop,ha]at hc
    |cons s r=>cases r with
     |nil=>simp[cop,ha]at hc
     |cons x r=>cases r with
      |nil=>exact aeW ha hc hr (hargs s tP) (hargs x tP) hW
      |cons y r=>simp[cop,ha]at hc
   case copy=>
    cases ha:args.toList with
    |nil=>simp[cop,ha]at hc
    |cons s r=>cases r with
     |nil=>simp[cop,ha]at hc
     |cons x r=>cases r with
      |nil=>exact aeX ha hc hr (hargs s tP) (hargs x tP) hW
      |cons y r=>simp[cop,ha]at hc
   case clear=>
    cases ha:args.toList with
    |nil=>simp[cop,ha]at hc
    |cons s r=>cases r with
     |nil=>exact aeZ ha hc hr (hargs s tP) hW
     |cons y r=>simp[cop,ha]at hc
   case len=>
    cases ha:args.toList with
    |nil=>simp[cop,ha]at hc
    |cons s r=>cases r with
     |nil=>exact aeN ha hc hr (hargs s tP) hW
     |cons y r=>simp[cop,ha]at hc
   case cap=>
    cases ha:args.toList with
    |nil=>simp[cop,ha]at hc
    |cons s r=>cases r with
     |nil=>exact aeO ha hc hr (hargs s tP) hW
     |cons y r=>simp[cop,ha]at hc
   case min=>exact WY (.inl rfl) hc hr hargs hW
   case max=>exact WY (.inr rfl) hc hr hargs hW
   case recover=>simp only[cop,aN]at hc;subst hc;cases hr
   case panic=>
    cases ha:args.toList with
    |nil=>simp[cop,ha]at hc
    |cons s r=>cases r with
     |nil=>simp only[cop,ha,aN]at hc;subst hc;cases hr
     |cons y r=>simp[cop,ha]at hc
   all_goals (simp[cop]at hc)
 all_goals
  exfalso
  first
   |(simp[cop]at hc;done)
   |(apply hm
     simp only[cop]at hc;repeat' split at hc
     all_goals first
      |contradiction
      |(cases hc;done)
      |(simp only[aN]at hc;subst hc;rfl)
      |(simp only[kg]at hc;obtain⟨_,_,rfl⟩:=hc;rfl))
end Go.Ideal
namespace Go.Ideal
variable {P:Program} {β:aJ} {h:IH} {w:World}
inductive qL(β:aJ):List PanicEntry->List PanicEntry->Prop
 |nil:qL β [] []
 |cons {e e':PanicEntry} {l l':List PanicEntry} (hv:VR β e.v e'.v) (hr:e'.recovered=e.recovered) (hg:e'.goexit=e.goexit) (hl:qL β l l'):qL β (e::l) (e'::l')
variable{β':aJ}
def qL.mono{β:aJ}(h:β.le β'){l l':ae PanicEntry}(k:qL β l l'):qL β' l l':=by
 induction k with
 |nil=>exact .nil
 |cons hv hr hg _ ih=>exact .cons (hv.mono h) hr hg ih
def qL.append{l l' r r':ae PanicEntry}(k:qL β l l')(k2:qL β r r'):qL β (l++r) (l'++r'):=by
 induction k with
 |nil=>exact k2
 |cons hv hr hg _ ih=>exact .cons hv hr hg ih
inductive MR(β:aJ):FrameMode->FrameMode->Prop
 |run:MR β .run .run
 |returning:MR β .returning .returning
 |panicking {l l':List PanicEntry} (h:qL β l l'):MR β (.panicking l) (.panicking l')
def MR.mono{β:aJ}(h:β.le β'){m m':FrameMode}(k:MR β m m'):MR β' m m':=by
 cases k with
 |run=>exact .run
 |returning=>exact .returning
 |panicking k=>exact .panicking (k.mono h)
inductive wM(β:aJ):List Deferred->List Deferred->Prop
 |nil:wM β [] []
 |fn {fn fn':Fn} {c c' a a':List Value} {l l':List Deferred} (hf:FR β fn fn') (hc:aW β c c') (ha:aW β a a') (hl:wM β l l'):wM β ({target:=.fn fn ⟨c⟩,args:=⟨a⟩}::l) ({target:=.fn fn' ⟨c'⟩,args:=⟨a'⟩}::l')
 |coll {r:Nat} {g:je} {a a':Array Value} {l l':List Deferred} (hr:β r=some g) (hl:wM β l l'):wM β ({target:=.collected r,args:=a}::l) ({target:=.collected g.b,args:=a'}::l')
def wM.mono{β:aJ}(h:β.le β'){l l':ae Deferred}(k:wM β l l'):wM β' l l':=by
 induction k with
 |nil=>exact .nil
 |fn hf hc ha _ ih=>exact .fn (hf.mono h) (hc.mono h) (ha.mono h) ih
 |coll hr _ ih=>exact .coll (h _ _ hr) ih
structure AR(β:aJ)(X:Nat->Prop)(a:bi)(tm:Array Value)(df:List Deferred):Prop where
 size:tm.size=a.n
 tmps:∀i,¬X i->VR β (dS a.tmps i) (tm.getD i undef)
 out:∀i,a.n<=i->dS a.tmps i=dX
 defers:wM β a.defers df
def none':Nat->Prop:=λ_=>False
def AR.mono{β:aJ}(h:β.le β'){X:Nat->Prop}{a:bi}{tm:Array ah}{df:ae Deferred}(k:AR β X a tm df):AR β' X a tm df:=
 ⟨k.size,λi hi=>(k.tmps i hi).mono h,k.out,k.defers.mono h⟩
def gsz(P:Program)(g:Nat):Nat:=((P.globals[g]?).map λx=>P.cellsOf x.type).getD 0
def l9(P:Program)(β:aJ):Prop:=∀g,g<P.globals.size->∃i,β g=some i/\i.b=g/\i.off=0/\i.top=gsz P g
variable{X:Nat->Prop}{a:bi}{tm:Array ah}{df:ae Deferred}
def AR.eval{iw:ae Deferred}(k:AR β X a tm df)(hG:l9 P β){x:ay}(hok:DU P x=true)(hx:∀t,x=.tmp t->¬X t):VR β (a.eval x) (Act.eval ⟨tm,iw⟩ x):=by
 cases x with
 |tmp t=>exact k.tmps t (hx t rfl)
 |const v=>
  show VR β v v;unfold DU at hok;split at hok
  .rename_i he;simp only[Operand.const.injEq]at he;subst he;exact .dX _
  .rename_i he;simp only[Operand.const.injEq]at he;subst he;exact VR.free hok
  .rename_i he;cases he
  .rename_i h1 h2 h3;exact absurd rfl (h2 v)
 |global g=>
  have hlt:g<P.globals.size:=by
   have:Nat.blt g P.globals.size=true:=hok;simpa[wy]using this
  obtain⟨i,hi,h1,h2,_⟩:=hG g hlt;have:=VR.ptr (β:=β) (o:=0) hi;rw[h1,h2]at this;exact this
 |func f=>exact .func (.func f) .nil .nil
def Lp(tm:Array ah)(d:Nat)(v:ah)(j:Nat)(hd:d<tm.size):(tm.setIfInBounds d v).getD j undef=if j=d then v else tm.getD j undef:=by
 simp only[wz,adN];by_cases h:d=j
 .subst h;simp[hd]
 .simp[h,Ne.symm h]
def AR.put(k:AR β X a tm df)(d:ak Tmp){v v':ah}(hv:VR β v v'):
 AR β (λi=>X i/\d≠some i) (a.put d v) (match d with|some d=>tm.setIfInBounds d v'|none=>tm) df:=by
 cases d with
 |none=>exact⟨k.size,λi hi=>k.tmps i λhx=>hi ⟨hx,s7⟩,k.out,k.defers⟩
 |some d=>
  show AR β _ (a.set d v) _ df;unfold bi.set;cases hb:Nat.blt d a.n with
  |false=>
   have hge:a.n<=d:=by
    rcases uW d a.n with hh|hh
    .have:Nat.blt d a.n=true:=by simpa[wy]using hh
     rw[this]at hb;cases hb
    .exact hh
   have hs:=k.size;have he:tm.setIfInBounds d v'=tm:=by
    apply Array.ext_getElem?;intro j;rw[adN];split
    .rename_i e;subst e;rw[if_neg s6,uX s6]
    .rfl
   simp only[cond_false];rw[he];refine⟨hs,λi hi=>?_,k.out,k.defers⟩;by_cases hx:X i
   .have hid:i=d:=by
     rcases Nat.decEq d i with hne|he
     .exact absurd ⟨hx,by simpa using hne⟩ hi
     .exact he.symm
    subst hid;rw[k.out i hge];exact .dX _
   .exact k.tmps i hx
  |true=>
   have hlt: @LT.lt Nat _ d a.n:=tM
   have hs:=k.size;simp only[cond_true];refine⟨by simpa using hs,λi hi=>?_,λi hi=>?_,k.defers⟩
   rotate_left
   .show dS (a.tmps.set d (some v)) i=dX;rw[FE,if_neg (by have:a.n<=i:=hi;omega)];exact k.out i hi
   show VR β (dS (a.tmps.set d (some v)) i) _;rw[FE,Lp tm d v' i s6];by_cases hid:i=d
   .rw[if_pos hid,if_pos hid];exact hv
   .rw[if_neg hid,if_neg hid];exact k.tmps i λhx=>hi ⟨hx,by simp[Ne.symm hid]⟩
end Go.Ideal
namespace Go.Ideal
variable {P:Program} {β:aJ} {h:IH} {w:World}
def fr(b:Frame)(tm:Array ah)(df:ae Deferred)(todo:ae Item):Frame:={b with tmps:=tm,todo:=todo,defers:=df,mode:=.run}
section
variable {b:Frame} {tm:Array ah} {df:ae Deferred} {k:ae Item} {cs:ae Frame}
def Xd(todo:ae Item):(fr b tm df todo).eval=Act.eval ⟨tm,df⟩:=funext λx=>by cases x<;>rfl
def ae1:step P (lone (fr b tm df (.code .skip::k)) cs w)=.next (lone (fr b tm df k) cs w):=step_lone_go th
def ae2{l:Nat}:step P (lone (fr b tm df (.code (.label l)::k)) cs w)=.next (lone (fr b tm df k) cs w):=step_lone_go th
variable{id:Nat}
def ae3:step P (lone (fr b tm df (.inBlock id::k)) cs w)=.next (lone (fr b tm df k) cs w):=step_lone_go th
variable{c:Code}
def ae4:step P (lone (fr b tm df (.inScope c::k)) cs w)=.next (lone (fr b tm df k) cs w):=step_lone_go th
variable{x y:Code}
def Lr:step P (lone (fr b tm df (.code (.seq x y)::k)) cs w)=.next (lone (fr b tm df (.code x::.code y::k)) cs w):=step_lone_go th
def IL:step P (lone (fr b tm df (.code (.block id c)::k)) cs w)=.next (lone (fr b tm df (.code c::.inBlock id::k)) cs w):=step_lone_go th
def ae5:step P (lone (fr b tm df (.code (.loop c)::k)) cs w)=.next (lone (fr b tm df (.code c::.inLoop c::k)) cs w):=step_lone_go th
def ae6:step P (lone (fr b tm df (.inLoop c::k)) cs w)=.next (lone (fr b tm df (.code c::.inLoop c::k)) cs w):=step_lone_go th
def Ls:step P (lone (fr b tm df (.code (.scope c)::k)) cs w)=.next (lone (fr b tm df (.code c::.inScope c::k)) cs w):=step_lone_go th
def ae7{c:ay}{t:Bool}(h:Act.eval ⟨tm,df⟩ c=.bool t):
 step P (lone (fr b tm df (.code (.cond c x y)::k)) cs w)=.next (lone (fr b tm df (.code (if t then x else y)::k)) cs w):=
 step_lone_go (by
  have he:=congrFun (Xd (b:=b) (tm:=tm) (df:=df) (.code (.cond c x y)::k)) c;rw[h]at he;simp only[fr]at he;simp[stepG,stepG.exec,fr,he])
def ae8{k':ae Item}(h:exitTo id k=some k'):step P (lone (fr b tm df (.code (.exit id)::k)) cs w)=.next (lone (fr b tm df k') cs w):=
 step_lone_go (by simp[stepG,stepG.exec,fr,h])
def ae9(hr:b.roundOf=none):step P (lone (fr b tm df (.code .ret::k)) cs w)=.next (lone {fr b tm df (.code .ret::k)with mode:=.returning} cs w):=
 step_lone_go C1
def afa(hr:b.roundOf=none):step P (lone (fr b tm df []) cs w)=.next (lone {fr b tm df []with mode:=.returning} cs w):=
 step_lone_go C1
variable{ops:Array Oper}
def afb:step P (lone (fr b tm df (.code (.region id ops false)::k)) cs w)=.next (lone (fr b tm df (.inRegion ops (List.range ops.size)::k)) cs w):=
 step_lone_go th
def afc:step P (lone (fr b tm df (.code (.region id ops true)::k)) cs w)=
 .next (lone (fr b tm df (.inRegion ops (Region.schedule (P.follows .mixedOrders) ops (w.tape w.drawn (.order b.fn id)))::k)) cs {w with drawn:=w.drawn+1}):=
 step_lone_go (by simp[stepG,stepG.exec,fr,choose,Sem.run,Question.forced,Question.cut])
def afd:step P (lone (fr b tm df (.inRegion ops []::k)) cs w)=.next (lone (fr b tm df k) cs w):=
 step_lone_go th
def rO(tm:Array ah)(d:ak Tmp)(v:ah):Array ah:=match d with|some d=>tm.setIfInBounds d v|none=>tm
variable{i:Nat}{rest:ae Nat}
def IM{v:ah}:(fr b tm df (.inRegion ops (i::rest)::k)).finish v=fr b (rO tm ((ops[i]?).bind (·.dst)) v) df (.inRegion ops rest::k):=by
 cases hd:(ops[i]?).bind (·.dst)<;>simp[Frame.finish,fr,rO,hd]
def Xe(hn:((ops[i]?).map (Region.wanted · (yielded ops tm))).getD false=false):
 step P (lone (fr b tm df (.inRegion ops (i::rest)::k)) cs w)=.next (lone (fr b (rO tm ((ops[i]?).bind (·.dst)) undef) df (.inRegion ops rest::k)) cs w):=by
 rw[<- IM];exact step_lone_go (by
  have h':=hn;simp only[fr]at *;simp[stepG,stepG.exec,h'])
variable{o:Oper}
def Ec(ho:ops[i]? =some o)(hw:Region.wanted o (yielded ops tm)=true)(hd:b.roundOf=none\/∀c,o.op≠.defer c):
 stepG P true {frame:=fr b tm df (.inRegion ops (i::rest)::k),callers:=cs,status:=.running,dying:=none} w=
  stepG.apply P true (fr b tm df (.inRegion ops (i::rest)::k)) cs none (execOp (Act.eval ⟨tm,df⟩) o) w:=by
 have he:=Xd (b:=b) (tm:=tm) (df:=df) (.inRegion ops (i::rest)::k);simp only[fr]at he;simp only[stepG,fr,stepG.exec,ho,lq,hw,yV,if_true,stepG.oper,Frame.oper?,he];split
 .rename_i l c hr hc;rcases hd with hd|hd
  .rw[hd]at hr;cases hr
  .exact absurd hc (hd c)
 .rfl
def Lt(ho:ops[i]? =some o)(hw:Region.wanted o (yielded ops tm)=true)(hd:b.roundOf=none\/∀c,o.op≠.defer c){r:Next}{v:ah}{w':World}
 (hr:(execOp (Act.eval ⟨tm,df⟩) o).run P w=.ok r w') (hv:r=.value v\/(r=.skip/\v=undef)):
 step P (lone (fr b tm df (.inRegion ops (i::rest)::k)) cs w)=.next (lone (fr b (rO tm o.dst v) df (.inRegion ops rest::k)) cs w'):=by
 have hf:=IM (b:=b) (tm:=tm) (df:=df) (k:=k) (ops:=ops) (i:=i) (rest:=rest) (v:=v);rw[ho]at hf;simp only[iL]at hf;rw[<- hf];refine step_lone_go ?_;rw[Ec ho hw hd];rcases hv with rfl|⟨rfl,rfl⟩<;>simp[stepG.apply,hr]
def afe(ho:ops[i]? =some o)(hw:Region.wanted o (yielded ops tm)=true)(hd:b.roundOf=none\/∀c,o.op≠.defer c){f:fO}{args:Array ah}{w':World}
 (hr:(execOp (Act.eval ⟨tm,df⟩) o).run P w=.ok (.enter f args) w'):
 step P (lone (fr b tm df (.inRegion ops (i::rest)::k)) cs w)=.next (lone (Frame.enter P f args .normal) (fr b tm df (.inRegion ops (i::rest)::k)::cs) w'):=by
 refine step_lone_go ?_;rw[Ec ho hw hd];simp[stepG.apply,hr,fr]
def aff(ho:ops[i]? =some o)(hw:Region.wanted o (yielded ops tm)=true)(hd:b.roundOf=none\/∀c,o.op≠.defer c){l:Nat}{f:fO}{tmps:Array ah}{x y:Code}{w':World}
 (hr:(execOp (Act.eval ⟨tm,df⟩) o).run P w=.ok (.round l f tmps x y) w'):
 step P (lone (fr b tm df (.inRegion ops (i::rest)::k)) cs w)=.next (lone (Frame.round l f tmps x y .normal) (fr b tm df (.inRegion ops (i::rest)::k)::cs) w'):=by
 refine step_lone_go ?_;rw[Ec ho hw hd];simp[stepG.apply,hr,fr]
def afg(ho:ops[i]? =some o)(hw:Region.wanted o (yielded ops tm)=true)(hd:b.roundOf=none\/∀c,o.op≠.defer c){v:ah}{w':World}
 (hr:(execOp (Act.eval ⟨tm,df⟩) o).run P w=.halt (.panic v) w'):
 step P (lone (fr b tm df (.inRegion ops (i::rest)::k)) cs w)=.next (lone {fr b tm df (.inRegion ops (i::rest)::k)with mode:=.panicking [{v,recovered:=false}]} cs w'):=by
 refine step_lone_go ?_;rw[Ec ho hw hd];simp[stepG.apply,hr,fr,Frame.raise]
def afh(ho:ops[i]? =some o)(hw:Region.wanted o (yielded ops tm)=true)(hro:b.roundOf=none){d:Deferred}{w':World}
 (hr:(execOp (Act.eval ⟨tm,df⟩) o).run P w=.ok (.defer d) w'):
 step P (lone (fr b tm df (.inRegion ops (i::rest)::k)) cs w)=.next (lone (fr b (rO tm o.dst undef) (d::df) (.inRegion ops rest::k)) cs w'):=by
 have hf:=IM (b:=b) (tm:=tm) (df:=d::df) (k:=k) (ops:=ops) (i:=i) (rest:=rest) (v:=undef);rw[ho]at hf;simp only[iL]at hf;rw[<- hf];refine step_lone_go ?_;rw[Ec ho hw (.inl hro)];simp[stepG.apply,hr,fr]
def Xf(ho:ops[i]? =some o)(hw:Region.wanted o (yielded ops tm)=true)(hro:b.roundOf=none){w':World}
 (hr:(execOp (Act.eval ⟨tm,df⟩) o).run P w=.ok .recover w'):
 step P (lone (fr b tm df (.inRegion ops (i::rest)::k)) cs w)=match tryRecover (fr b tm df (.inRegion ops (i::rest)::k)) cs with
  |some (v,cs')=>.next (lone (fr b (rO tm o.dst v) df (.inRegion ops rest::k)) cs' w')
  |none=>.next (lone (fr b (rO tm o.dst .nilIface) df (.inRegion ops rest::k)) cs w'):=by
 have hf:=λv=>IM (b:=b) (tm:=tm) (df:=df) (k:=k) (ops:=ops) (i:=i) (rest:=rest) (v:=v);rw[ho]at hf;simp only[iL]at hf;have hre:(fr b tm df (.inRegion ops (i::rest)::k)).roundOf=none:=hro;cases ht:tryRecover (fr b tm df (.inRegion ops (i::rest)::k)) cs with
 |none=>
  exact mC
 |some p=>
  obtain⟨v,cs'⟩:=p;exact mC
end
end Go.Ideal
namespace Go.Ideal
variable {P:Program}
variable{ρ:ay->ah}{h:IH}{c:aK}{v:ah}
def Xg{h':IH}(hl:heavy c=false)(hm:c.makes=false)(hr:c.run P ρ h=some (v,h')):h'=h:=by
 cases c<;>first|(cases hl;done)|(cases hm;done)|skip
 all_goals
  simp only[aK.run,Bool.cond_eq_ite]at hr;repeat' split at hr
  all_goals first
   |(cases hr;done)
   |(simp only[aN,dH]at hr;exact hr.2.symm)
variable{h2:IH}
def Xh{m:ah}(hs:∀i o,h.get i=some o->h2.get i=some o){es:ae MapEntry}(he:entriesOf m h=some es):entriesOf m h2=some es:=by
 unfold entriesOf at he⊢;split at he
 .exact he
 .rename_i i;split at he
  .rename_i es1 c hg;simp only[hs _ _ hg];exact he
  .cases he
 .cases he
def afi(hl:heavy c=false)(hm:c.makes=false)(hs:∀i o,h.get i=some o->h2.get i=some o)(hr:c.run P ρ h=some (v,h)):c.run P ρ h2=some (v,h2):=by
 cases c<;>first|(cases hl;done)|(cases hm;done)|skip
 case fE a=>
  simp only[aK.run]at hr⊢;split at hr
  .split at hr
   .rename_i u hu;simp only[aN,dH,Aa]at hr;simp only[adZ hs hu,hr]
   .cases hr
  .cases hr
 case sH n a=>
  simp only[aK.run]at hr⊢;split at hr
  .split at hr
   .rename_i cs hg;simp only[WE hs hg];exact mm
   .cases hr
  .cases hr
 case H7 a=>
  simp only[aK.run]at hr⊢;split at hr
  .exact mm
  .split at hr
   .rename_i cs hg;simp only[WE hs hg];split at hr
    .rename_i bs hb;simp only[aN,dH,Aa]at hr;simp only[hb,hr]
    .cases hr
   .cases hr
  .cases hr
 case lookup kt z m k ok=>
  simp only[aK.run,DR]at hr⊢;split at hr
  .rename_i u hu;split at hu
   .cases hu
   .rename_i es hes;simp only[Xh hs hes];simp only[aN,dH,Aa]at hr;rw[hu];simp only[hr]
  .cases hr
 case entry x=>
  simp only[aK.run]at hr⊢;split at hr
  .split at hr
   .rename_i m since seen stepped hg;simp only[hs _ _ hg];split at hr
    .rename_i es clock hgm;simp only[hs _ _ hgm];split at hr
     .rename_i stamp hst;cases hb:Nat.beq clock stepped with
      |false=>rw[hb]at hr;cases hr
      |true=>
       rw[hb]at hr;simp only[cond_true]at hr⊢;split at hr
       .rename_i e he;exact mm
       .cases hr
     .cases hr
    .cases hr
   .cases hr
  .cases hr
 case K6 x=>
  simp only[aK.run]at hr⊢;split at hr
  .rename_i es hes;simp only[Xh hs hes];exact mm
  .cases hr
 all_goals
  simp only[aK.run,Bool.cond_eq_ite]at hr⊢;repeat' split at hr
  all_goals first
   |(cases hr;done)
   |(simp only[aN,dH,Aa]at hr;subst hr;simp_all;done)
   |skip
def afj(hl:∀i o,h.get i=some o->i<h.next)(ob:dL):∀i o,h.get i=some o->(h.new ob).get i=some o:=λi o hi=>by
 rw[IH.jq,if_neg (by have:=hl i o hi;omega)];exact hi
def afk(hl:heavy c=false)(hm:c.makes=false)(hp:Fu c=false)(hr:c.run P ρ h=some (v,h))(h2:IH):c.run P ρ h2=some (v,h2):=by
 cases c<;>first|(cases hl;done)|(cases hm;done)|(cases hp;done)|skip
 all_goals
  simp only[aK.run,Bool.cond_eq_ite]at hr⊢;repeat' split at hr
  all_goals first
   |(cases hr;done)
   |(simp only[aN,dH,Aa]at hr;subst hr;simp_all;done)
   |skip
variable{ρ':ay->ah}
def Qi:∀(parts:ae (Nat×Nat×ay)) (z:ae ah),(∀p∈parts,ρ p.2.2=ρ' p.2.2)->vB ρ z parts=vB ρ' z parts:=by
 intro parts;induction parts with
 |nil=>intro z _;rfl
 |cons p parts ih=>
  intro z hp;obtain⟨off,size,x⟩:=p;rw[PV,PV,hp (off,size,x) s7];cases cellsOf (ρ' x)with
  |none=>rfl
  |some vs=>
   simp only;split
   .cases jH z off vs with
    |none=>rfl
    |some cs=>exact ih cs λq hq=>hp q (by simp[hq])
   .rfl
def Qj(l:ae ay)(hp:∀x∈l,ρ x=ρ' x):nZ ρ l=nZ ρ' l:=by
 rw[zg,zg];exact sD hp
def afl{fs:Array Field}:∀(l:ae (Nat×ay)) (pc:ae (Nat×Nat×ay)),Ca P fs l=some pc->∀q∈pc,∃p∈l,q.2.2=p.2:=by
 intro l;induction l with
 |nil=>intro pc h q hq;simp only[Ca,aN]at h;subst h;simp at hq
 |cons p l ih=>
  intro pc h q hq;obtain⟨i,x⟩:=p;simp only[Ca]at h;split at h
  .rename_i f r hf hr;split at h
   .rename_i s hs;simp only[aN]at h;subst h;rcases bH.1 hq with rfl|hq
    .exact⟨(i,x),s7,rfl⟩
    .obtain⟨p,hp,he⟩:=ih r hr q hq;exact⟨p,by simp[hp],he⟩
   .cases h
  .cases h
def Qk(x:ak ay)(h:∀y,x=some y->ρ y=ρ' y):jI ρ x=jI ρ' x:=by
 cases x with
 |none=>rfl
 |some y=>simp[jI,h y rfl]
def FT{o:Oper}(hc:cop P o=some c)(hρ:∀x∈o.op.operands,ρ x=ρ' x)(h:IH):c.run P ρ h=c.run P ρ' h/\c.alloc ρ=c.alloc ρ':=by
 obtain⟨dst,op,type,pos,after,guard⟩:=o;cases op
 case build t ps=>
  have hp:∀p∈ps.toList,ρ p.2=ρ' p.2:=λp hp=>hρ p.2 xf;simp only[cop]at hc;split at hc
  .rename_i fs z _ _;split at hc
   .rename_i pc hpc;simp only[aN]at hc;subst hc;refine⟨?_,rfl⟩;simp only[aK.run];unfold placesOf at hpc;split at hpc
    .have hq2:∀q∈pc,ρ q.2.2=ρ' q.2.2:=λq hq=>by
      obtain⟨p,h1,h2⟩:=afl _ _ hpc q hq;have:=hp p h1;rw[<- h2]at this;exact this
     rw[Qi pc z hq2]
    .cases hpc
   .cases hc
  .split at hc
   .rename_i s _;simp only[aN]at hc;subst hc;refine⟨?_,rfl⟩;simp only[aK.run];rw[Qi _ _ λq hq=>by obtain⟨p,h1,rfl⟩:=bS.1 hq;exact hp p h1]
   .cases hc
  .cases hc
 case buildSlice t n ps=>
  have hp:∀p∈ps.toList,ρ p.2=ρ' p.2:=λp hp=>hρ p.2 xf;simp only[cop]at hc;split at hc
  .split at hc
   .split at hc
    .simp only[aN]at hc;subst hc;simp only[aK.run,aK.alloc];rw[Qi _ _ λq hq=>by obtain⟨p,h1,rfl⟩:=bS.1 hq;exact hp p h1];exact⟨rfl,rfl⟩
    .cases hc
   .cases hc
  .cases hc
 case makeFunc fn first captured=>
  simp only[cop]at hc;split at hc
  .simp only[aN]at hc;subst hc;refine⟨?_,rfl⟩;simp only[aK.run];rw[Qj first.toList λx hx=>hρ x Hh,Qj captured.toList λx hx=>hρ x Hi]
  .cases hc
 case slice t x lo hi mx=>
  have h0:ρ x=ρ' x:=hρ x ta;have h1:=Qk (ρ:=ρ) (ρ':=ρ') lo λy hy=>hρ y ur;have h2:=Qk (ρ:=ρ) (ρ':=ρ') hi λy hy=>hρ y ur;have h3:=Qk (ρ:=ρ) (ρ':=ρ') mx λy hy=>hρ y ur;simp only[cop]at hc;split at hc
  .simp only[aN]at hc;subst hc;simp only[aK.run,aK.alloc,h0,h1,h2,h3,and_self]
  .exact mT
  .exact mT
  .cases hc
 case call cl=>
  obtain⟨callee,args,ats⟩:=cl;cases callee with
  |value f=>simp only[cop,aN]at hc;subst hc;exact⟨rfl,rfl⟩
  |invoke x n=>simp only[cop,aN]at hc;subst hc;exact⟨rfl,rfl⟩
  |builtin b=>
   have hargs:∀x∈args.toList,ρ x=ρ' x:=λx hx=>hρ x GS;have hl:=Qj args.toList hargs;simp only[cop]at hc;repeat' split at hc
   all_goals first
    |contradiction
    |(cases hc;done)
    |skip
   all_goals first
    |(simp only[aN]at hc;subst hc)
    |(simp only[kg]at hc;obtain⟨_,_,rfl⟩:=hc)
   all_goals first
    |exact⟨rfl,rfl⟩
    |(simp only[aK.run,aK.alloc,hl,and_self];done)
    |(simp only[*,bH,Ab,or_false,forall_eq_or_imp,forall_eq]at hargs
      simp only[aK.run,aK.alloc,hargs,and_self])
 all_goals
  simp only[cop]at hc;repeat' split at hc
  all_goals first
   |contradiction
   |(cases hc;done)
   |skip
 all_goals first
  |(simp only[aN]at hc;subst hc)
  |(simp only[kg]at hc;obtain⟨_,_,rfl⟩:=hc)
  |(simp only[reduceCtorEq]at hc;done)
 all_goals (simp[Op.operands]at hρ;simp only[aK.run,aK.alloc,hρ,and_self])
end Go.Ideal
namespace Go.Ideal
variable {P:Program}
variable{β:aJ}{h:IH}{w:World}
def WR.hide(hW:WR P β h w)(ob:dL):WR P β (h.new ob) w/\Eff β h w β (h.new ob) w:=by
 have hget:∀i,i<h.next->(h.new ob).get i=h.get i:=λi hi=>by rw[IH.jq,if_neg s6]
 refine⟨⟨?_,?_,?_,?_⟩,⟨λ_ _=>rfl,?_,?_,?_,aZ _,?_,rfl,rfl,rfl,aZ _,λ_ _ _=>rfl,?_,λ_ _ _ _ _ _ _=>rfl,aZ _⟩⟩
 .intro i g hi;have:=hW.dom i g hi;show i<h.next+1;omega
 .intro i o hi;show i<h.next+1
  rw[IH.jq]at hi;split at hi
  .omega
  .have:=hW.live i o hi;omega
 .intro i g o hi ho;rw[hget i (hW.dom i g hi)]at ho;exact hW.obj i g o hi ho
 .intro i j g k hi hj h1 h2 hr he;rw[hget i (hW.dom i g hi)]at h1;rw[hget j (hW.dom j k hj)]at h2;exact hW.inj i j g k hi hj h1 h2 (hr.imp (λq cs e=>q cs (by rw[hget i (hW.dom i g hi)];exact e)) (λq cs e=>q cs (by rw[hget j (hW.dom j k hj)];exact e))) he
 .show h.next<=h.next+1;omega
 .intro i hi hn;rw[hget i hi]at hn;exact hn
 .intro i hi _;exact hget i hi
 .intro i _ hi;exact hget i hi
 .intro i g hg hi;exact absurd (hW.dom i g hg) s6
def WR.Ql(hW:WR P β h w){id:Nat}(hb:β id=none)(hlt:id<h.next){ob:dL}(hg:h.get id=some ob){o':Obj}{g:je}(hgb:g.b=w.heap.size)
 (ho:OR P (β.add id g) g {w with heap:=w.heap.push o'} ob):WR P (β.add id g) h {w with heap:=w.heap.push o'}:=by
 have hle:β.le (β.add id g):=aJ.xX g hb;have hheap:∀b,b<w.heap.size->({w with heap:=w.heap.push o'}:World).heap[b]? =w.heap[b]?:=λb hb=>by
  exact rN
 have hold:∀j k,β j=some k->h.get j≠none->k.b<w.heap.size:=λj k hk hj=>by
  cases hx:h.get j with
  |none=>exact absurd hx hj
  |some o=>exact(hW.obj j k o hk hx).lt
 refine⟨?_,hW.live,?_,?_⟩
 .intro j k hk;by_cases e:j=id
  .subst e;exact hlt
  .rw[aJ.nK _ _ e]at hk;exact hW.dom j k hk
 .intro j k o hk hx;by_cases e:j=id
  .subst e;rw[aJ.l8]at hk;cases hk;rw[hg]at hx;cases hx;exact ho
  .rw[aJ.nK _ _ e]at hk;exact((hW.obj j k o hk hx).mono hle).congr (hheap _ (hold j k hk (by rw[hx];simp)))
 .intro j l k m hk hm hj hl hr he;by_cases ej:j=id
  .by_cases el:l=id
   .omega
   .subst ej;rw[aJ.l8]at hk;cases hk;rw[aJ.nK _ _ el]at hm;have:=hold l m hm hl;omega
  .rw[aJ.nK _ _ ej]at hk;by_cases el:l=id
   .subst el;rw[aJ.l8]at hm;cases hm;have:=hold j k hk hj;omega
   .rw[aJ.nK _ _ el]at hm;exact hW.inj _ _ _ _ hk hm hj hl hr he
section
variable (P) (ops:Array Oper) (bR:Nat->Nat->Bool) (hv:Nat->Bool)
structure x9(done:List Nat)(i:Nat):Prop where
 lt:i<ops.size
 new:i∉done
 pre:∀j,bR i j=true->j∈done
 heavy:hv i=true->(∀j∈done,hv j=true->bR i j=true)/\∀j,j<ops.size->hv j=false->j∉done->∃k,bR j k=true/\k∉done
 own:hv i=false->∀o d,ops[i]? =some o->o.dst=some d->d∉looks ops o
 put:∀o d,ops[i]? =some o->o.dst=some d->∀j∈done,∀p,ops[j]? =some p->(d∈looks ops p\/p.dst=some d)->hv i=true/\bR i j=true
 look:∀o,ops[i]? =some o->∀j∈done,∀p,ops[j]? =some p->∀d,p.dst=some d->d∈looks ops o->bR i j=true
def IP:ae Nat->Prop
 |[]=>True
 |i::d=>x9 ops bR hv d i/\IP d
def Ck:ae Nat->ae Nat->ae bN->Prop
 |[],done,l=>l=[]/\∀i,i<ops.size->i∈done
 |i::rest,done,l=>x9 ops bR hv done i/\∃s re r,l=⟨s,re⟩::r/\lQ P ops i=some s/\(hv i=false->heavy s.op=false)/\
   (hv i=true->∀j∈done,hv j=false->bR i j=false->∀t,lQ P ops j=some t->Fu t.op=true->t∈re)/\Ck rest (i::done) r
def yc:ae Nat->ae Nat->Prop
 |S,[]=>∀i,i<ops.size->i∉S->∃j,bR i j=true/\j∉S
 |S,i::r=>i<ops.size/\i∉S/\(∀j,bR i j=true->j∈S)/\yc (i::S) r
def afm:∀(rest D:ae Nat) (l:ae bN),Ck P ops bR hv rest D l->∀y∈D,hv y=true->∀x,x<ops.size->x∉D->hv x=true->bR x y=true:=by
 intro rest;induction rest with
 |nil=>intro D l hp y _ _ x hx hxd _;exact absurd (hp.2 x hx) hxd
 |cons i rest ih=>
  intro D l hp y hy Xi x hx hxd FQ;obtain⟨h1,s,re,r,_,_,_,_,h2⟩:=hp;by_cases e:x=i
  .subst e;exact(h1.heavy FQ).1 y hy Xi
  .exact ih _ _ h2 y (by simp[hy]) Xi x hx (by simp[e,hxd]) FQ
def Xj:∀(done S:ae Nat),IP ops bR hv done->(∃x∈done,x∉S)->∃x∈done,x∉S/\∀j,bR x j=true->j∈S:=by
 intro done;induction done with
 |nil=>intro S _ h;obtain⟨x,hx,_⟩:=h;simp at hx
 |cons i d ih=>
  intro S hd h;obtain⟨h1,h2⟩:=hd;by_cases hp:∃x∈d,x∉S
  .obtain⟨x,a,b,c⟩:=ih S h2 hp;exact⟨x,by simp[a],b,c⟩
  .have hall:∀x∈d,x∈S:=λx hx=>Decidable.byContradiction λhn=>hp ⟨x,hx,hn⟩;obtain⟨x,hx,hxs⟩:=h;rcases bH.1 hx with rfl|hx
   .exact⟨x,s7,hxs,λj hj=>hall j (h1.pre j hj)⟩
   .exact absurd (hall x hx) hxs
end
section
variable (P) (ops:Array Oper) (hv:Nat->Bool)
inductive Xk(β:aJ)(lo:Nat)(a:bi)(h:IH)(al:Nat->Nat)(i:Nat):Prop
 |skip (o:Oper) (s:jc) (ho:ops[i]? =some o) (hs:lQ P ops i=some s) (hl:heavy s.op=false) (hw:a.wants s.guard=some false) (hd:∀d,s.dst=some d->dS a.tmps d=wF\/a.n<=d)
 |mg (o:Oper) (s:jc) (ho:ops[i]? =some o) (hs:lQ P ops i=some s) (hl:heavy s.op=false) (hw:a.wants s.guard=some true) (hm:s.op.makes=false) (u:Value) (hr:s.op.run P a.eval h=some (u,h))
   (hd:∀d,s.dst=some d->dS a.tmps d=u\/a.n<=d)
 |make (o:Oper) (s:jc) (ho:ops[i]? =some o) (hs:lQ P ops i=some s) (hl:heavy s.op=false) (hw:a.wants s.guard=some true) (hm:s.op.makes=true) (f:Nat->Value) (ob:dL) (hr:s.op.alloc a.eval=some (f,ob))
   (hlo:lo<=al i) (hlt:al i<h.next) (hb:β (al i)=none) (hg:h.get (al i)=some ob) (hd:∀d,s.dst=some d->dS a.tmps d=f (al i)\/a.n<=d)
def waits(done S:ae Nat)(t:Nat):Prop:=∃i o,i∈done/\i∉S/\ops[i]? =some o/\o.dst=some t
structure Inv(bR:Nat->Nat->Bool)(β0:aJ)(h0:IH)(w0:World)(done S:List Nat)(β:aJ)(a:bi)(h:IH)(w:World)(tm:Array Value)(df:List Deferred):Prop where
 wN:IP ops bR hv done
 sub:∀i∈S,i∈done
 IQ:∀i∈done,hv i=true->i∈S
 pend:∃al:Nat->Nat,(∀i∈done,i∉S->Xk P ops β h0.next a h al i)/\∀i j,i∈done->j∈done->i∉S->j∉S->i≠j->(∃s,lQ P ops i=some s/\s.op.makes=true/\a.wants s.guard=some true)->(∃s,lQ P ops j=some s/\s.op.makes=true/\a.wants s.guard=some true)->al i≠al j
 act:AR β (waits ops done S) a tm df
 wr:WR P β h w
 wO:Eff β0 h0 w0 β h w
end
variable{ops:Array Oper}{s:jc}
def qM{i:Nat}(h:lQ P ops i=some s):∃o,ops[i]? =some o/\cop P o=some s.op/\s.dst=o.dst/\(∀x∈o.op.operands,DU P x=true)/\
 ((o.guard=none/\s.guard=none)\/∃j want t,o.guard=some (j,want)/\(ops[j]?).bind (·.dst)=some t/\s.guard=some (t,want)):=by
 unfold lQ at h;cases ho:ops[i]? with
 |none=>rw[ho]at h;cases h
 |some o=>
  rw[ho]at h;simp only[iL]at h;refine⟨o,rfl,?_⟩;unfold Ia at h;split at h
  .rename_i hall;have Lu:∀x∈o.op.operands,DU P x=true:=λx hx=>(jy.1 hall) x tg;split at h
   .cases h
   .rename_i c hc;split at h
    .rename_i hg;simp only[aN]at h;subst h;exact⟨hc,rfl,Lu,.inl ⟨hg,rfl⟩⟩
    .rename_i j want hg;split at h
     .rename_i t ht;simp only[aN]at h;subst h;exact⟨hc,rfl,Lu,.inr ⟨j,want,t,hg,ht,rfl⟩⟩
     .cases h
  .cases h
variable{o:Oper}
def IR{t:Nat}(h:(∃x∈o.op.operands,x=.tmp t)\/∃j want,o.guard=some (j,want)/\(ops[j]?).bind (·.dst)=some t):t∈looks ops o:=by
 unfold looks;rcases h with⟨x,hx,rfl⟩|⟨j,want,h1,h2⟩
 .exact jl _ (KM.2 ⟨.tmp t,by simpa using hx,rfl⟩)
 .refine nD _ ?_;rw[h1];simp[h2]
def Lv{X:Nat->Prop}{a:bi}{tm:Array ah}{df:ae Deferred}(hg:(o.guard=none/\s.guard=none)\/∃j want t,o.guard=some (j,want)/\(ops[j]?).bind (·.dst)=some t/\s.guard=some (t,want))
 (k:AR β X a tm df) (hx:∀t,t∈looks ops o->¬X t) {r:Bool} (hw:a.wants s.guard=some r):Region.wanted o (yielded ops tm)=r:=by
 rcases hg with⟨h1,h2⟩|⟨j,want,t,h1,h2,h3⟩
 .rw[h2]at hw;simp only[bi.wants,aN]at hw;simp[Region.wanted,h1,<- hw]
 .rw[h3]at hw;have hv:=k.tmps t (hx t (IR (.inr ⟨j,want,h1,h2⟩)));simp only[bi.wants]at hw;have hy:Region.wanted o (yielded ops tm)=((match tm[t]? with|some (.bool b)=>some b|_=>none)==some want):=by
   simp only[Region.wanted,h1,yielded,h2,iL];rfl
  rw[hy];split at hw
  .rename_i b hb;rw[hb]at hv;have hv':=hv.Lh;rw[wz]at hv';cases ht:tm[t]? with
   |none=>rw[ht]at hv';simp[undef]at hv'
   |some u=>
    rw[ht]at hv';simp only[yV]at hv';subst hv';simp only[aN]at hw;subst hw;cases b<;>cases want<;>rfl
  .rename_i c hb;rw[hb]at hv;simp only[aN]at hw;subst hw;generalize hz:tm.getD t undef=z at hv;cases hv;rw[wz]at hz;cases ht:tm[t]? with
   |none=>rfl
   |some u=>
    rw[ht]at hz;simp only[yV]at hz;subst hz;rfl
  .cases hw
end Go.Ideal
namespace Go.Ideal
variable {P:Program} {ops:Array Oper} {bR:Nat->Nat->Bool} {hv:Nat->Bool}
variable{β:aJ}
def l9.le{β':aJ}(h:β.le β')(k:l9 P β):l9 P β':=λg hg=>let⟨i,a,b⟩:=k g hg;⟨i,h _ _ a,b⟩
def Eff.Ql{β0:aJ}{h0 h:IH}{w0 w:World}(e:Eff β0 h0 w0 β h w){id:Nat}{g:je}(hlo:h0.next<=id)(hgb:g.b=w.heap.size)(o':Obj):Eff β0 h0 w0 (β.add id g) h {w with heap:=w.heap.push o'} where
 agree i hi:=(aJ.nK _ _ s6).trans (e.agree i hi)
 next:=e.next
 alive:=e.alive
 hid:=e.hid
 low:=e.low
 kept:=e.kept
 os:=e.os
 tape:=e.tape
 output:=e.output
 drawn:=e.drawn
 size:=by have:=e.size;simp;omega
 keep b hb hno:=by
  rw[<- e.keep b hb hno];have:=e.size;exact rN
 fresh i k hk hi:=by
  by_cases ei:i=id
  .subst ei;rw[aJ.l8]at hk;cases hk;left;rw[hgb];exact e.size
  .rw[aJ.nK _ _ ei]at hk;exact e.fresh i k hk hi
 vD i k hl hi hk hn hb:=by
  rw[<- e.vD i k hl hi hk hn hb];have:=e.size;show(w.heap.push o')[k.b]? =_;rw[KF,if_neg s6]
def Qm:∀{done:ae Nat},IP ops bR hv done->∀{x:Nat},x∈done->∃d,x9 ops bR hv d x:=by
 intro done;induction done with
 |nil=>intro _ x hx;simp at hx
 |cons i d ih=>
  intro hd x hx;rcases bH.1 hx with rfl|hx
  .exact⟨d,hd.1⟩
  .exact ih hd.2 hx
def afn:∀{done:ae Nat},IP ops bR hv done->∀{x y:Nat},x∈done->y∈done->x≠y->(∃d,x9 ops bR hv d y/\x∈d)\/(∃d,x9 ops bR hv d x/\y∈d):=by
 intro done;induction done with
 |nil=>intro _ x y hx;simp at hx
 |cons i d ih=>
  intro hd x y hx hy hne;rcases bH.1 hx with e1|hx'
  .rcases bH.1 hy with e2|hy'
   .exact absurd (e1.trans e2.symm) hne
   .subst e1;exact .inr ⟨d,hd.1,hy'⟩
  .rcases bH.1 hy with e2|hy'
   .subst e2;exact .inl ⟨d,hd.1,hx'⟩
   .exact ih hd.2 hx' hy' hne
section
variable {β0:aJ} {h0:IH} {w0:World} {done S:ae Nat} {β:aJ} {a:bi} {h:IH} {w:World} {tm:Array ah} {df:ae Deferred}
def Inv.Qn(hI:Inv P ops hv bR β0 h0 w0 done S β a h w tm df){x:Nat}(hx:x∈done)(hs:x∉S):hv x=false:=by
 cases hh:hv x with
 |false=>rfl
 |true=>exact absurd (hI.IQ x hx hh) hs
def Inv.Lx(hI:Inv P ops hv bR β0 h0 w0 done S β a h w tm df){x:Nat}(hx:x∈done)(hs:x∉S)(hpre:∀j,bR x j=true->j∈S){o:Oper}(ho:ops[x]? =some o){t:Nat}(ht:t∈looks ops o):¬waits ops done S t:=by
 rintro⟨y,p,hy,hys,hp,mQ⟩;by_cases e:x=y
 .subst e;rw[ho]at hp;cases hp;obtain⟨d,hd⟩:=Qm hI.wN hx;exact hd.own (hI.Qn hx hs) o t ho mQ ht
 .rcases afn hI.wN hx hy e with⟨d,hd,hxd⟩|⟨d,hd,zi⟩
  .have:=(hd.put p t hp mQ x hxd o ho (.inl ht)).1;rw[hI.Qn hy hys]at this;cases this
  .exact hys (hpre y (hd.look o ho y zi p hp t mQ ht))
def Inv.Qo(hI:Inv P ops hv bR β0 h0 w0 done S β a h w tm df){x:Nat}(hx:x∈done)(hs:x∉S){o:Oper}(ho:ops[x]? =some o){β':aJ}(hle:β.le β'){u v':ah}(hd:∀d,o.dst=some d->dS a.tmps d=u\/a.n<=d)(hv':VR β' u v'):
 AR β' (waits ops done (x::S)) a (rO tm o.dst v') df:=by
 have hA:=hI.act;refine⟨?_,λt ht=>?_,hA.out,hA.defers.mono hle⟩
 .rw[<- hA.size];unfold rO;split<;>simp
 .by_cases e:o.dst=some t
  .rw[e];show VR β' _ ((tm.setIfInBounds t v').getD t undef);by_cases hlt:t<tm.size
   .rw[Lp tm t v' t hlt,if_pos rfl];rcases hd t e with h1|h1
    .rw[h1];exact hv'
    .rw[hA.out t h1];exact .dX _
   .rw[hA.out t (by rw[<- hA.size];omega)];exact .dX _
  .have hnw:¬waits ops done S t:=by
    rintro⟨y,p,hy,hys,hp,mQ⟩;refine ht ⟨y,p,hy,?_,hp,mQ⟩;intro hc;rcases bH.1 hc with rfl|hc
    .rw[ho]at hp;cases hp;exact e mQ
    .exact hys hc
   have pX:=(hA.tmps t hnw).mono hle;cases hd2:o.dst with
   |none=>exact pX
   |some d=>
    show VR β' _ ((tm.setIfInBounds d v').getD t undef);have hne:d≠t:=λe2=>e (by rw[hd2,e2]);rw[wz,KH hne,<- wz];exact pX
def Inv.take(hI:Inv P ops hv bR β0 h0 w0 done S β a h w tm df)(hG:l9 P β0)(hdom:∀i g,β0 i=some g->i<h0.next){x:Nat}(hx:x∈done)(hs:x∉S)(hpre:∀j,bR x j=true->j∈S)(b:Frame)(k:ae Item)(cs:ae Frame)(rest:ae Nat):
 ∃β' w' tm',step P (lone (fr b tm df (.inRegion ops (x::rest)::k)) cs w)=.next (lone (fr b tm' df (.inRegion ops rest::k)) cs w')/\β.le β'/\Inv P ops hv bR β0 h0 w0 done (x::S) β' a h w' tm' df:=by
 obtain⟨al,hp,hal⟩:=hI.pend;have hGβ:l9 P β:=hG.le (hI.wO.le hdom);have Qp:∀i∈done,hv i=true->i∈x::S:=λi hi hh=>dB _ (hI.IQ i hi hh);have hsub:∀i∈x::S,i∈done:=λi hi=>by
  rcases bH.1 hi with rfl|hi
  .exact hx
  .exact hI.sub i hi
 have zk:∀y,y∉x::S->y∉S/\y≠x:=λy hy=>⟨λhc=>hy (dB _ hc),λe=>hy wk⟩
 have Xl:∀{o:Oper},ops[x]? =some o->∀y∈o.op.operands,∀t,y=.tmp t->¬waits ops done S t:=λho y hy t ht=>hI.Lx hx hs hpre ho (IR (.inl ⟨y,hy,ht⟩));have keep:∀(β':aJ),(∀j,j∈done->j∉x::S->(∃s,lQ P ops j=some s/\s.op.makes=true/\a.wants s.guard=some true)->β' (al j)=β (al j))->∀i∈done,i∉x::S->Xk P ops β' h0.next a h al i:=by
  intro β' hb i hi his;cases hp i hi (zk i his).1 with
  |skip o s ho hs hl hw hd=>exact .skip o s ho hs hl hw hd
  |mg o s ho hs hl hw hm u hr hd=>exact .mg o s ho hs hl hw hm u hr hd
  |make o s ho hs hl hw hm f ob hr hlo hlt hbb hg hd=>exact .make o s ho hs hl hw hm f ob hr hlo hlt (by rw[hb i hi his ⟨s,hs,hm,hw⟩];exact hbb) hg hd
 have Qq:∀i j,i∈done->j∈done->i∉x::S->j∉x::S->i≠j->(∃s,lQ P ops i=some s/\s.op.makes=true/\a.wants s.guard=some true)->(∃s,lQ P ops j=some s/\s.op.makes=true/\a.wants s.guard=some true)->al i≠al j:=
  λi j hi hj his hjs=>hal i j hi hj (zk i his).1 (zk j hjs).1
 cases hp x hx hs with
 |skip o s ho hcs hl hw hd=>
  obtain⟨o',ho',iC,hdst,yf,hgd⟩:=qM hcs;rw[ho]at ho';cases ho';have hwant:=Lv hgd hI.act (λt ht=>hI.Lx hx hs hpre ho ht) hw;refine⟨β,w,rO tm o.dst undef,?_,λ_ _ e=>e,hI.wN,hsub,Qp,⟨al,keep β λ_ _ _ _=>rfl,Qq⟩,?_,hI.wr,hI.wO⟩
  .have:=Xe (P:=P) (b:=b) (tm:=tm) (df:=df) (k:=k) (cs:=cs) (w:=w) (ops:=ops) (i:=x) (rest:=rest) (by simp[ho,hwant]);rw[this,ho];rfl
  .rw[hdst]at hd;exact hI.Qo hx hs ho (λ_ _ e=>e) hd .skip
 |mg o s ho hcs hl hw hm u hr hd=>
  obtain⟨o',ho',iC,hdst,yf,hgd⟩:=qM hcs;rw[ho]at ho';cases ho';have hwant:=Lv hgd hI.act (λt ht=>hI.Lx hx hs hpre ho ht) hw;obtain⟨r,w',β',v',g1,g2,g3,g4,g5⟩:=Xc (ρ':=Act.eval ⟨tm,df⟩) iC (λy hy=>hI.act.eval hGβ (yf y hy) (Xl ho y hy)) hr hI.wr;have hnd:∀c,o.op≠.defer c:=by
   exact eE
  have hle:=g5.le hI.wr.dom;refine⟨β',w',rO tm o.dst v',Lt ho hwant (.inr hnd) g1 g2,hle,hI.wN,hsub,Qp,⟨al,keep β' λj hj hjs hjm=>?_,Qq⟩,?_,g4,hI.wO.trans g5⟩
  .obtain⟨t,h1,h2,h3⟩:=hjm;cases hp j hj (zk j hjs).1 with
   |skip o2 s2 _ hs2 _ hw2 _=>rw[h1]at hs2;cases hs2;rw[h3]at hw2;cases hw2
   |mg o2 s2 _ hs2 _ _ hm2 _ _ _=>rw[h1]at hs2;cases hs2;rw[h2]at hm2;cases hm2
   |make o2 s2 _ _ _ _ _ _ _ _ _ hlt _ _ _=>exact g5.agree _ hlt
  .rw[hdst]at hd;exact hI.Qo hx hs ho hle hd g3
 |make o s ho hcs hl hw hm f ob hr hlo hlt hbn hget hd=>
  obtain⟨o',ho',iC,hdst,yf,hgd⟩:=qM hcs;rw[ho]at ho';cases ho';have hwant:=Lv hgd hI.act (λt ht=>hI.Lx hx hs hpre ho ht) hw;obtain⟨v',o',g,m1,m2,m3⟩:=Xb (ρ':=Act.eval ⟨tm,df⟩) (w:=w) hm iC (λy hy=>hI.act.eval hGβ (yf y hy) (Xl ho y hy)) hr;have hle:=aJ.xX (β:=β) g hbn;obtain⟨m4,m5⟩:=m3 (al x) _ hle (aJ.l8 _ _ _);have hnd:∀c,o.op≠.defer c:=by
   exact eE
  refine⟨β.add (al x) g,_,rO tm o.dst v',Lt ho hwant (.inr hnd) m1 (.inl rfl),hle,hI.wN,hsub,Qp,⟨al,keep _ λj hj hjs hjm=>?_,Qq⟩,?_,hI.wr.Ql hbn hlt hget m2 m5,hI.wO.Ql hlo m2 o'⟩
  .exact aJ.nK _ _ (hal j x hj hx (zk j hjs).1 hs (zk j hjs).2 hjm ⟨s,hcs,hm,hw⟩)
  .rw[hdst]at hd;exact hI.Qo hx hs ho hle hd m4
def Inv.flush(hG:l9 P β0)(hdom:∀i g,β0 i=some g->i<h0.next){i:Nat}(hstep:x9 ops bR hv done i)(lD:hv i=true)(afo:∀x,x<ops.size->x∉done->x≠i->hv x=true->bR x i=true)
 (b:Frame) (k:ae Item) (cs:ae Frame):∀(ρ S:ae Nat) (β:aJ) (w:World) (tm:Array ah),Inv P ops hv bR β0 h0 w0 done S β a h w tm df->yc ops bR S ρ->
 ∃S' β' w' tm' ρ',Steps P (lone (fr b tm df (.inRegion ops ρ::k)) cs w) (lone (fr b tm' df (.inRegion ops (i::ρ')::k)) cs w')/\β.le β'/\Inv P ops hv bR β0 h0 w0 done S' β' a h w' tm' df/\yc ops bR S' (i::ρ'):=by
 intro ρ;induction ρ with
 |nil=>
  intro S β w tm hI hR
  exfalso
  by_cases hp:∃x∈done,x∉S
  .obtain⟨x,h1,h2,h3⟩:=Xj ops bR hv done S hI.wN hp;obtain⟨d,hd⟩:=Qm hI.wN h1;obtain⟨j,h4,h5⟩:=hR x hd.lt h2;exact h5 (h3 j h4)
  .have hall:∀x∈done,x∈S:=λx hx=>Decidable.byContradiction λhn=>hp ⟨x,hx,hn⟩;obtain⟨j,h4,h5⟩:=hR i hstep.lt λhc=>hstep.new (hI.sub i hc);exact h5 (hall j (hstep.pre j h4))
 |cons x ρ ih=>
  intro S β w tm hI hR;by_cases e:x=i
  .subst e;exact⟨S,β,w,tm,ρ,Steps.refl P _,λ_ _ e=>e,hI,hR⟩
  .obtain⟨r1,r2,r3,r4⟩:=hR;have hx:x∈done:=by
    refine Decidable.byContradiction λhn=>?_;cases hh:hv x with
    |false=>
     obtain⟨j,h1,h2⟩:=(hstep.heavy lD).2 x r1 hh hn;exact h2 (hI.sub j (r3 j h1))
    |true=>exact hstep.new (hI.sub i (r3 i (afo x r1 hn e hh)))
   obtain⟨β',w',tm',s1,s0,s2⟩:=hI.take hG hdom hx r2 r3 b k cs ρ;obtain⟨S',β'',w'',Qr,ρ',t1,t0,t2,t3⟩:=ih _ _ _ _ s2 r4;exact⟨S',β'',w'',Qr,ρ',.head s1 t1,λ_ _ e=>t0 _ _ (s0 _ _ e),t2,t3⟩
def Inv.finish(hG:l9 P β0)(hdom:∀i g,β0 i=some g->i<h0.next)(hall:∀i,i<ops.size->i∈done)
 (b:Frame) (k:ae Item) (cs:ae Frame):∀(ρ S:ae Nat) (β:aJ) (w:World) (tm:Array ah),Inv P ops hv bR β0 h0 w0 done S β a h w tm df->yc ops bR S ρ->
 ∃β' w' tm',Steps P (lone (fr b tm df (.inRegion ops ρ::k)) cs w) (lone (fr b tm' df k) cs w')/\β.le β'/\AR β' none' a tm' df/\WR P β' h w'/\Eff β0 h0 w0 β' h w':=by
 intro ρ;induction ρ with
 |nil=>
  intro S β w tm hI hR;have hS:∀x∈done,x∈S:=λx hx=>Decidable.byContradiction λhn=>by
   obtain⟨y,h1,h2,h3⟩:=Xj ops bR hv done S hI.wN ⟨x,hx,hn⟩;obtain⟨d,hd⟩:=Qm hI.wN h1;obtain⟨j,h4,h5⟩:=hR y hd.lt h2;exact h5 (h3 j h4)
  refine⟨β,w,tm,.one afd,λ_ _ e=>e,⟨hI.act.size,λi _=>hI.act.tmps i ?_,hI.act.out,hI.act.defers⟩,hI.wr,hI.wO⟩;rintro⟨y,p,hy,hys,_⟩;exact hys (hS y hy)
 |cons x ρ ih=>
  intro S β w tm hI hR;obtain⟨r1,r2,r3,r4⟩:=hR;obtain⟨β',w',tm',s1,s0,s2⟩:=hI.take hG hdom (hall x r1) r2 r3 b k cs ρ;obtain⟨β'',w'',Qr,t1,t0,t2⟩:=ih _ _ _ _ s2 r4;exact⟨β'',w'',Qr,.head s1 t1,λ_ _ e=>t0 _ _ (s0 _ _ e),t2⟩
end
end Go.Ideal
namespace Go.Ideal
variable {P:Program} {ops:Array Oper} {bR:Nat->Nat->Bool} {hv:Nat->Bool}
def wP(a:bi)(d:ak Tmp)(v:ah)(t:Nat):dS (a.put d v).tmps t=if d=some t/\t<a.n then v else dS a.tmps t:=by
 cases d with
 |none=>simp[bi.put]
 |some d=>
  show dS (a.set d v).tmps t=_;unfold bi.set;cases hb:Nat.blt d a.n with
  |true=>
   have hlt: @LT.lt Nat _ d a.n:=tM
   show dS (a.tmps.set d (some v)) t=_;rw[FE];by_cases e:t=d
   .subst e;rw[if_pos rfl,if_pos ⟨rfl,hlt⟩]
   .rw[if_neg e,if_neg];rintro⟨h1,_⟩;simp at h1;exact e h1.symm
  |false=>
   show dS a.tmps t=_;rw[if_neg];rintro⟨h1,h2⟩;simp only[aN]at h1;subst h1;have:Nat.blt d a.n=true:=by simpa[wy]using h2
   rw[this]at hb;cases hb
def sK(a:bi)(d:ak Tmp)(v:ah):(a.put d v).n=a.n:=by
 cases d with
 |none=>rfl
 |some d=>show(a.set d v).n=_;unfold bi.set;cases Nat.blt d a.n<;>rfl
def put_defers(a:bi)(d:ak Tmp)(v:ah):(a.put d v).defers=a.defers:=by
 cases d with
 |none=>rfl
 |some d=>show(a.set d v).defers=_;unfold bi.set;cases Nat.blt d a.n<;>rfl
def yg(a:bi)(d:ak Tmp)(v:ah):(a.put d v).pm=a.pm:=by
 cases d with
 |none=>rfl
 |some d=>show(a.set d v).pm=_;unfold bi.set;cases Nat.blt d a.n<;>rfl
def yj(a:bi)(d:ak Tmp)(v:ah):(a.put d v).ro=a.ro:=by
 cases d with
 |none=>rfl
 |some d=>show(a.set d v).ro=_;unfold bi.set;cases Nat.blt d a.n<;>rfl
def FU{a a2:bi}{o:Oper}{s:jc}{i:Nat}(hi:ops[i]? =some o)(hs:lQ P ops i=some s)(h:∀t,t∈looks ops o->dS a2.tmps t=dS a.tmps t):
 (∀x∈o.op.operands,a2.eval x=a.eval x)/\a2.wants s.guard=a.wants s.guard:=by
 obtain⟨o',ho',_,_,_,hg⟩:=qM hs;rw[hi]at ho';cases ho';refine⟨λx hx=>?_,?_⟩
 .cases x with
  |tmp t=>exact h t (IR (.inl ⟨_,hx,rfl⟩))
  |const v=>rfl
  |global g=>rfl
  |func f=>rfl
 .rcases hg with⟨_,h2⟩|⟨j,want,t,h1,h2,h3⟩
  .rw[h2];rfl
  .rw[h3];simp only[bi.wants,h t (IR (.inr ⟨j,want,h1,h2⟩))]
section
variable {β0:aJ} {h0:IH} {w0:World} {done S:ae Nat} {β:aJ} {a:bi} {h:IH} {w:World} {tm:Array ah} {df:ae Deferred}
def Inv.sync(hI:Inv P ops hv bR β0 h0 w0 done S β a h w tm df){i:Nat}(hstep:x9 ops bR hv done i){o:Oper}(ho:ops[i]? =some o)(hpre:∀j,bR i j=true->j∈S)
 {β2:aJ} {h2:IH} {w2:World} (heff:Eff β h w β2 h2 w2) (hwr:WR P β2 h2 w2) {v v':ah} (hvv:VR β2 v v') {a2:bi} (ha2:∀t,dS a2.tmps t=dS (a.put o.dst v).tmps t) (hn:a2.n=a.n) {df2:ae Deferred} (hdf:wM β2 a2.defers df2)
 (hre:h2=h\/∀j∈done,j∉S->∀t,lQ P ops j=some t->Fu t.op=true->a2.wants t.guard≠some false->∃u h3,t.op.run P a2.eval h2=some (u,h3)/\∀d,t.dst=some d->dS a2.tmps d=u):
 Inv P ops hv bR β0 h0 w0 (i::done) (i::S) β2 a2 h2 w2 (rO tm o.dst v') df2:=by
 have hle:=heff.le hI.wr.dom;obtain⟨al,hp,hal⟩:=hI.pend;have zk:∀y,y∈i::done->y∉i::S->y∈done/\y∉S/\y≠i:=λy hy hys=>by
  have hne:y≠i:=λe=>hys wk;exact⟨(bH.1 hy).resolve_left hne,λhc=>hys (dB _ hc),hne⟩
 have free:∀j∈done,j∉S->∀p,ops[j]? =some p->(∀t∈looks ops p,o.dst≠some t)/\∀t,p.dst=some t->o.dst≠some t:=λj hj hjs p gD=>
  ⟨λt ht hd=>hjs (hpre j (hstep.put o t ho hd j hj p gD (.inl ht)).2),λt ht hd=>hjs (hpre j (hstep.put o t ho hd j hj p gD (.inr ht)).2)⟩
 have sM:∀t,o.dst≠some t->dS a2.tmps t=dS a.tmps t:=λt ht=>by rw[ha2,wP,if_neg (λhc=>ht hc.1)]
 have same:∀j∈done,j∉S->∀p s,ops[j]? =some p->lQ P ops j=some s->(∀x∈p.op.operands,a2.eval x=a.eval x)/\a2.wants s.guard=a.wants s.guard:=λj hj hjs p s gD hsj=>
  FU gD hsj λt ht=>sM t ((free j hj hjs p gD).1 t ht)
 have Ed:∀j∈done,j∉S->(∃s,lQ P ops j=some s/\s.op.makes=true/\a2.wants s.guard=some true)->∃s,lQ P ops j=some s/\s.op.makes=true/\a.wants s.guard=some true:=λj hj hjs ⟨s,q1,q2,q3⟩=>by
  obtain⟨p,gD,_⟩:=qM q1;exact⟨s,q1,q2,by rw[<- (same j hj hjs p s gD q1).2];exact q3⟩
 refine⟨⟨hstep,hI.wN⟩,?_,?_,⟨al,?_,?_⟩,?_,hwr,hI.wO.trans heff⟩
 .intro x hx;rcases bH.1 hx with e|hx
  .simp[e]
  .exact dB _ (hI.sub x hx)
 .intro x hx hh;rcases bH.1 hx with e|hx
  .simp[e]
  .exact dB _ (hI.IQ x hx hh)
 .intro j hj hjs;obtain⟨c1,c2,c3⟩:=zk j hj hjs;cases hp j c1 c2 with
  |skip p s gD hs hl hw hd=>
   obtain⟨f1,f2⟩:=free j c1 c2 p gD;obtain⟨_,qN,_,hdst,_⟩:=qM hs;rw[gD]at qN;cases qN;refine .skip p s gD hs hl (by rw[(same j c1 c2 p s gD hs).2];exact hw) λd hdd=>?_;rw[sM d (f2 d xj),hn];exact hd d hdd
  |mg p s gD hs hl hw hm u hr hd=>
   obtain⟨f1,f2⟩:=free j c1 c2 p gD;obtain⟨_,qN,iC,hdst,_⟩:=qM hs;rw[gD]at qN;cases qN;obtain⟨e1,e2⟩:=same j c1 c2 p s gD hs;have hcg:∀hh:IH,s.op.run P a2.eval hh=s.op.run P a.eval hh:=λhh=>(FT iC e1 hh).1;cases hrd:Fu s.op with
   |false=>
    have hr2:s.op.run P a2.eval h2=some (u,h2):=by rw[hcg];exact afk hl hm hrd hr h2
    refine .mg p s gD hs hl tR hm u hr2 λd hdd=>?_;rw[sM d (f2 d xj),hn];exact hd d hdd
   |true=>
    rcases hre with rfl|hre
    .refine .mg p s gD hs hl tR hm u (by rw[hcg];exact hr) λd hdd=>?_;rw[sM d (f2 d xj),hn];exact hd d hdd
    obtain⟨u2,h3,g1,g2⟩:=hre j c1 c2 s hs hrd (by rw[e2,hw];simp);have h3e:=Xg hl hm g1;subst h3e;exact .mg p s gD hs hl tR hm u2 g1 λd hdd=>.inl (g2 d hdd)
  |make p s gD hs hl hw hm f ob hr hlo hlt hb hg hd=>
   obtain⟨f1,f2⟩:=free j c1 c2 p gD;obtain⟨_,qN,iC,hdst,_⟩:=qM hs;rw[gD]at qN;cases qN;obtain⟨e1,e2⟩:=same j c1 c2 p s gD hs;have hb2:β2 (al j)=none:=by rw[heff.agree _ hlt];exact hb
   have hg2:h2.get (al j)=some ob:=by rw[heff.hid _ hlt hb];exact hg
   refine .make p s gD hs hl tR hm f ob (by rw[(FT iC e1 h).2];exact hr) hlo (pu hlt heff.next) hb2 hg2 λd hdd=>?_;rw[sM d (f2 d xj),hn];exact hd d hdd
 .intro x y hx hy hxs hys hne mx my;obtain⟨c1,c2,_⟩:=zk x hx hxs;obtain⟨d1,d2,_⟩:=zk y hy hys;exact hal x y c1 d1 c2 d2 hne (Ed x c1 c2 mx) (Ed y d1 d2 my)
 .have hA:=hI.act;refine⟨?_,λt ht=>?_,λt ht=>?_,hdf⟩
  .rw[hn,<- hA.size];unfold rO;split<;>simp
  .have hnw:¬waits ops done S t:=by
    rintro⟨y,p,hy,hys,hp',mQ⟩;refine ht ⟨y,p,dB _ hy,?_,hp',mQ⟩;intro hc;rcases bH.1 hc with e|hc
    .subst e;exact hstep.new hy
    .exact hys hc
   have pX:=(hA.tmps t hnw).mono hle;rw[ha2,wP];cases hd2:o.dst with
   |none=>
    rw[if_neg s7];exact pX
   |some d=>
    show VR β2 _ ((tm.setIfInBounds d v').getD t undef);have hsz:=hA.size;by_cases hdt:d=t
    .subst hdt;by_cases hlt: @LT.lt Nat _ d a.n
     .rw[if_pos ⟨rfl,hlt⟩,Lp tm d v' d s6,if_pos rfl];exact hvv
     .rw[if_neg (λhc=>hlt hc.2)];rw[hA.out d s6];exact .dX _
    .rw[if_neg (λhc=>hdt (by simpa using hc.1))];rw[wz,KH hdt,<- wz];exact pX
  .rw[ha2,wP,if_neg (λhc=>by have:=hc.2;omega)];exact hA.out t s6
def Inv.ahead(hI:Inv P ops hv bR β0 h0 w0 done S β a h w tm df){i:Nat}(hstep:x9 ops bR hv done i)(hlt:hv i=false){o:Oper}{s:jc}(ho:ops[i]? =some o)(hs:lQ P ops i=some s)(hl:heavy s.op=false)
 {v:ah} {h2:IH} (hcase:(a.wants s.guard=some false/\v=wF/\h2=h)\/(a.wants s.guard=some true/\s.op.run P a.eval h=some (v,h2))):
 Inv P ops hv bR β0 h0 w0 (i::done) S β (a.put s.dst v) h2 w tm df:=by
 obtain⟨al,hp,hal⟩:=hI.pend;obtain⟨o',ho',iC,hdst,_,_⟩:=qM hs;rw[ho]at ho';cases ho';have wQ:i∉S:=λhc=>hstep.new (hI.sub i hc);have sM:∀t,o.dst≠some t->dS (a.put s.dst v).tmps t=dS a.tmps t:=λt ht=>by rw[wP,hdst,if_neg (λhc=>ht hc.1)]
 have free:∀j∈done,∀p,ops[j]? =some p->(∀t∈looks ops p,o.dst≠some t)/\∀t,p.dst=some t->o.dst≠some t:=λj hj p gD=>
  ⟨λt ht hd=>(by have:=(hstep.put o t ho hd j hj p gD (.inl ht)).1;rw[hlt]at this;cases this),λt ht hd=>(by have:=(hstep.put o t ho hd j hj p gD (.inr ht)).1;rw[hlt]at this;cases this)⟩
 have own:∀t∈looks ops o,o.dst≠some t:=λt ht hd=>hstep.own hlt o t ho hd ht;have Qs:∀d,s.dst=some d->dS (a.put s.dst v).tmps d=v\/(a.put s.dst v).n<=d:=λd hd=>by
  rw[wP,sK,hd];by_cases hh: @LT.lt Nat _ d a.n
  .left;rw[if_pos ⟨rfl,hh⟩]
  .right;exact Nat.le_of_not_lt hh
 have hheap:(h2=h/\((a.wants s.guard=some true)->s.op.makes=false))\/(a.wants s.guard=some true/\s.op.makes=true/\∃f ob,s.op.alloc a.eval=some (f,ob)/\v=f h.next/\h2=h.new ob):=by
  rcases hcase with⟨q1,_,q3⟩|⟨q1,q2⟩
  .exact .inl ⟨q3,λhc=>by rw[q1]at hc;cases hc⟩
  .cases hm:s.op.makes with
   |false=>exact .inl ⟨Xg hl hm q2,λ_=>rfl⟩
   |true=>
    rw[aK.Xa hm]at q2;obtain⟨f,ob,e1,e2,e3⟩:=W9 q2;exact .inr ⟨q1,rfl,f,ob,e1,e2,e3⟩
 have hsub:∀x ob,h.get x=some ob->h2.get x=some ob:=λx ob hx=>by
  rcases hheap with⟨e,_⟩|⟨_,_,f,Qt,_,_,e⟩
  .rw[e];exact hx
  .rw[e];exact afj hI.wr.live _ _ _ hx
 have hnext:h.next<=h2.next:=by
  rcases hheap with⟨e,_⟩|⟨_,_,f,Qt,_,_,e⟩
  .rw[e];exact aZ _
  .rw[e];exact Dw _
 have Xm:WR P β h2 w/\Eff β h w β h2 w:=by
  rcases hheap with⟨e,_⟩|⟨_,_,f,Qt,_,_,e⟩
  .rw[e];exact⟨hI.wr,Eff.refl _ _ _ hI.wr.dom⟩
  .rw[e];exact hI.wr.hide Qt
 have hne:∀j∈done,j≠i:=λj hj e=>hstep.new (e▸hj);have Ed:∀j∈done,(∃s',lQ P ops j=some s'/\s'.op.makes=true/\(a.put s.dst v).wants s'.guard=some true)->∃s',lQ P ops j=some s'/\s'.op.makes=true/\a.wants s'.guard=some true:=λj hj ⟨s',q1,q2,q3⟩=>by
  obtain⟨p,gD,_⟩:=qM q1;exact⟨s',q1,q2,by rw[<- (FU gD q1 λt ht=>sM t ((free j hj p gD).1 t ht)).2];exact q3⟩
 have Xn:∀j∈done,j∉S->(∃s',lQ P ops j=some s'/\s'.op.makes=true/\a.wants s'.guard=some true)->al j<h.next:=λj hj hjs ⟨s',q1,q2,q3⟩=>by
  cases hp j hj hjs with
  |skip p s2 _ hs2 _ hw2 _=>rw[q1]at hs2;cases hs2;rw[q3]at hw2;cases hw2
  |mg p s2 _ hs2 _ _ hm2 _ _ _=>rw[q1]at hs2;cases hs2;rw[q2]at hm2;cases hm2
  |make p s2 _ _ _ _ _ _ _ _ _ hlt2 _ _ _=>exact hlt2
 refine⟨⟨hstep,hI.wN⟩,λx hx=>dB _ (hI.sub x hx),?_,⟨λj=>if j=i then h.next else al j,?_,?_⟩,?_,Xm.1,hI.wO.trans Xm.2⟩
 .intro x hx hh;rcases bH.1 hx with e|hx
  .subst e;rw[hlt]at hh;cases hh
  .exact hI.IQ x hx hh
 .intro j hj hjs;rcases bH.1 hj with e|hj
  .subst e;obtain⟨e1,e2⟩:=FU (a:=a) (a2:=a.put s.dst v) ho hs λt ht=>sM t (own t ht);rcases hheap with⟨e,hm⟩|⟨q1,q2,f,ob,q3,q4,q5⟩
   .rcases hcase with⟨q1,q2,q3⟩|⟨q1,q2⟩
    .refine .skip o s ho hs hl AI λd hd=>?_;rw[<- q2];exact Qs d hd
    .subst e;exact .mg o s ho hs hl AI (hm q1) v (by rw[(FT iC e1 h2).1];exact q2) Qs
   .refine .make o s ho hs hl AI q2 f ob (by rw[(FT iC e1 h2).2];exact q3) ?_ ?_ ?_ ?_ λd hd=>?_
    .rw[if_pos rfl];exact hI.wO.next
    .rw[if_pos rfl,q5];exact zY _
    .rw[if_pos rfl];exact hI.wr.zh
    .rw[if_pos rfl,q5,IH.jq,if_pos rfl]
    .rw[if_pos rfl,<- q4];exact Qs d hd
  .have hji:=hne j hj;cases hp j hj hjs with
   |skip p s2 gD hs2 hl2 hw hd=>
    obtain⟨f1,f2⟩:=free j hj p gD;obtain⟨_,qN,_,IU,_⟩:=qM hs2;rw[gD]at qN;cases qN;obtain⟨e1,e2⟩:=FU gD hs2 λt ht=>sM t (f1 t ht);refine .skip p s2 gD hs2 hl2 tR λd hdd=>?_;rw[sM d (f2 d AK),sK];exact hd d hdd
   |mg p s2 gD hs2 hl2 hw hm u hr hd=>
    obtain⟨f1,f2⟩:=free j hj p gD;obtain⟨_,qN,Qu,IU,_⟩:=qM hs2;rw[gD]at qN;cases qN;obtain⟨e1,e2⟩:=FU gD hs2 λt ht=>sM t (f1 t ht);refine .mg p s2 gD hs2 hl2 tR hm u (by rw[(FT Qu e1 h2).1];exact afi hl2 hm hsub hr) λd hdd=>?_;rw[sM d (f2 d AK),sK];exact hd d hdd
   |make p s2 gD hs2 hl2 hw hm f ob hr hlo hlt2 hb hg hd=>
    obtain⟨f1,f2⟩:=free j hj p gD;obtain⟨_,qN,Qu,IU,_⟩:=qM hs2;rw[gD]at qN;cases qN;obtain⟨e1,e2⟩:=FU gD hs2 λt ht=>sM t (f1 t ht);have IV:(if j=i then h.next else al j)=al j:=if_neg hji;refine .make p s2 gD hs2 hl2 tR hm f ob (by rw[(FT Qu e1 h2).2];exact hr) (by rw[IV];exact hlo) (by rw[IV];exact pu hlt2 hnext) (by rw[IV];exact hb) (by rw[IV];exact hsub _ _ hg) λd hdd=>?_;rw[sM d (f2 d AK),sK,IV];exact hd d hdd
 .intro x y hx hy hxs hys hxy mx my;show(if x=i then h.next else al x)≠(if y=i then h.next else al y);rcases bH.1 hx with ex|hx
  .rcases bH.1 hy with ey|hy
   .exact absurd (ex.trans ey.symm) hxy
   .rw[if_pos ex,if_neg (hne y hy)];have:=Xn y hy hys (Ed y hy my);omega
  .rcases bH.1 hy with ey|hy
   .rw[if_neg (hne x hx),if_pos ey];have:=Xn x hx hxs (Ed x hx mx);omega
   .rw[if_neg (hne x hx),if_neg (hne y hy)];exact hal x y hx hy hxs hys hxy (Ed x hx mx) (Ed y hy my)
 .have hA:=hI.act;refine⟨by rw[sK];exact hA.size,λt ht=>?_,λt ht=>?_,by rw[put_defers];exact hA.defers⟩
  .have hdt:o.dst≠some t:=λhd=>ht ⟨i,o,s7,wQ,ho,hd⟩;rw[sM t hdt];refine hA.tmps t ?_;rintro⟨y,p,hy,hys,hp',mQ⟩;exact ht ⟨y,p,dB _ hy,hys,hp',mQ⟩
  .rw[sK]at ht;rw[wP,if_neg (λhc=>by have:=hc.2;omega)];exact hA.out t ht
end
end Go.Ideal
namespace Go.Ideal
variable {P:Program}
def kindOf:ak FrameMode->CallKind
 |none=>.normal
 |some _=>.deferred
structure CX(P:Program)(β:aJ)(pm:Option FrameMode)(ro:Option Nat)(b:Frame)(cs:List Frame):Prop where
 fn:∃f,P.funcs[b.fn]? =some f
 round:(ro=none/\b.roundOf=none)\/∃l g,ro=some l/\β l=some g/\b.roundOf=some g.b
 kind:b.kind=kindOf pm
 mode:∀m,pm=some m->∃c rest,cs=c::rest/\MR β m c.mode
inductive qw(β':aJ):Option FrameMode->Option FrameMode->List Frame->List Frame->Prop
 |none (cs:List Frame):qw β' none none cs cs
 |some (m m':FrameMode) (c:Frame) (rest:List Frame) (mr:FrameMode) (h:MR β' m' mr):qw β' (some m) (some m') (c::rest) ({c with mode:=mr}::rest)
variable{β β':aJ}
def qw.mono(h:β.le β'){p q:ak FrameMode}{cs cs':ae Frame}(k:qw β p q cs cs'):qw β' p q cs cs':=by
 cases k with
 |none cs=>exact .none cs
 |some m m' c rest mr hm=>exact .some m m' c rest mr (hm.mono h)
variable{cs cs':ae Frame}
def qw.trans{p q r:ak FrameMode}{cs'':ae Frame}(k:qw β p q cs cs')(k2:qw β' q r cs' cs''):qw β' p r cs cs'':=by
 cases k with
 |none cs=>exact k2
 |some m m' c rest mr hm=>
  cases k2 with
  |some _ m'' _ _ Qv hm'=>exact .some m m'' c rest Qv hm'
variable{b:Frame}
def CX.start{pm:ak FrameMode}{ro:ak Nat}(k:CX P β pm ro b cs):qw β pm pm cs cs:=by
 cases pm with
 |none=>exact .none cs
 |some m=>
  obtain⟨c,rest,rfl,hm⟩:=k.mode m rfl;have:=qw.some (β':=β) m m c rest c.mode hm;exact this
def CX.after(hle:β.le β'){pm pm':ak FrameMode}{ro:ak Nat}{b:Frame}{cs cs':ae Frame}(k:CX P β pm ro b cs)(hc:qw β' pm pm' cs cs'):CX P β' pm' ro b cs' where
 fn:=k.fn
 round:=by
  rcases k.round with h|⟨l,g,h1,h2,h3⟩
  .exact .inl h
  .exact .inr ⟨l,g,h1,hle _ _ h2,h3⟩
 kind:=by
  have:=k.kind;cases hc with
  |none=>exact this
  |some=>exact this
 mode m hm:=by
  cases hc with
  |none=>cases hm
  |some m0 m' c rest mr h=>cases hm;exact⟨_,rest,rfl,h⟩
def LA(P:Program)(M:Machine)(b:Frame)(k:ae Item)(β':aJ)(tm':Array ah)(iw:ae Deferred)(cs':ae Frame)(w':World):Out->Prop
 | .normal=>Steps P M (lone (fr b tm' iw k) cs' w')
 | .exit id=>∃todo,exitTo id todo=exitTo id k/\Steps P M (lone (fr b tm' iw (.code (.exit id)::todo)) cs' w')
 | .ret=>∃todo,Steps P M (lone (fr b tm' iw (.code .ret::todo)) cs' w')
 | .panic ch=>∃todo ch',qL β' ch ch'/\Steps P M (lone {fr b tm' iw todo with mode:=.panicking ch'} cs' w')
variable{M M':Machine}{k:ae Item}
def LA.of_steps{tm':Array ah}{iw:ae Deferred}{w':World}{o:Out}(h:Steps P M M')(k2:LA P M' b k β' tm' iw cs' w' o):LA P M b k β' tm' iw cs' w' o:=by
 cases o with
 |normal=>exact h.trans k2
 |exit id=>obtain⟨todo,h1,h2⟩:=k2;exact⟨todo,h1,h.trans h2⟩
 |ret=>obtain⟨todo,h2⟩:=k2;exact⟨todo,h.trans h2⟩
 |panic ch=>obtain⟨todo,ch',h1,h2⟩:=k2;exact⟨todo,ch',h1,h.trans h2⟩
def Post(P:Program)(β0:aJ)(h0:IH)(w0:World)(kW:ak FrameMode)(jX:ak Nat)(b:Frame)(cs0:ae Frame)(k:ae Item)(K:KO)(M:Machine):Prop:=
 ∃o a' h' β' w' tm' iw cs',K o a' h'/\WR P β' h' w'/\Eff β0 h0 w0 β' h' w'/\AR β' none' a' tm' iw/\qw β' kW a'.pm cs0 cs'/\a'.ro=jX/\LA P M b k β' tm' iw cs' w' o
def Post.of_steps{β0:aJ}{h0:IH}{w0:World}{kW:ak FrameMode}{jX:ak Nat}{cs0:ae Frame}{K:KO}(h:Steps P M M')(p:Post P β0 h0 w0 kW jX b cs0 k K M'):Post P β0 h0 w0 kW jX b cs0 k K M:=by
 obtain⟨o,a',h',β',w',tm',iw,cs',q1,q2,q3,q4,q5,q6,q7⟩:=p;exact⟨o,a',h',β',w',tm',iw,cs',q1,q2,q3,q4,q5,q6,.of_steps h q7⟩
def Qw(code:Code)(it:Item):Prop:=it=.code code\/∃body,code=.loop body/\it=.inLoop body
def nL(P:Program)(c:dz)(a:bi)(h:IH)(K:KO):Prop:=
 ∀code it,compile P code=c->Qw code it->∀β w b tm df k cs,l9 P β->WR P β h w->AR β none' a tm df->CX P β a.pm a.ro b cs->
  Post P β h w a.pm a.ro b cs k K (lone (fr b tm df (it::k)) cs w)
def qx(P:Program)(ds:ae Tmp)(l:ae bN)(a:bi)(h:IH)(K:KO):Prop:=
 ∀ops bR hv rest done S,Ck P ops bR hv rest done l->(∀(i:Nat) o d,ops[i]? =some o->o.dst=some d->d∈ds)->
  ∀β0 h0 w0 kW jX cs0 β w b tm df k cs ρ,l9 P β0->(∀i g,β0 i=some g->i<h0.next)->CX P β0 kW jX b cs0->Inv P ops hv bR β0 h0 w0 done S β a h w tm df->yc ops bR S ρ->
  qw β kW a.pm cs0 cs->a.ro=jX->Post P β0 h0 w0 kW jX b cs0 k K (lone (fr b tm df (.inRegion ops ρ::k)) cs w)
inductive RR(β:aJ):jB->Ending->Prop
 |ok {v v':Value} (h:VR β v v'):RR β (.ok v) (.returned v')
 |gI {ch ch':List PanicEntry} (h:qL β ch ch'):RR β (.gI ch) (.panicked ch')
def entry(P:Program)(k:CallKind):Next->ak Frame
 | .enter f args=>some (Frame.enter P f args k)
 | .round l f tmps x y=>some (Frame.round l f tmps x y k)
 |_=>none
def recv(c:Frame):Ending->Frame
 | .returned v=>c.finish v
 | .panicked ch=>c.raise ch
 | .outgrown=>c
def nM(P:Program)(q:iI)(h:IH)(K:KR):Prop:=
 ∀β w fn' args' cap',l9 P β->WR P β h w->FR β q.fn fn'->aW β q.args args'->aW β q.captured cap'->
  ∃nx F0,(invoke (.fn fn' ⟨cap'⟩) ⟨args'⟩).run P w=.ok nx w/\entry P (kindOf q.pm) nx=some F0/\
   ∀cs0,(∀m,q.pm=some m->∃c rest,cs0=c::rest/\MR β m c.mode)->∃r pm' h' β' w' r' cs1,K r pm' h'/\WR P β' h' w'/\Eff β h w β' h' w'/\RR β' r r'/\qw β' q.pm pm' cs0 cs1/\
    ((∃f args F1,nx=.enter f args/\Steps P (lone F0 cs0 w) (lone F1 cs1 w')/\F1.fn=f/\F1.kind=kindOf q.pm/\F1.going P w' r')\/
     ((q.pm=none/\∃l,q.fn=.yield l)/\∀c rest,cs1=c::rest->Steps P (lone F0 cs0 w) (lone (recv c r') rest w')))
def Ay(P:Program)(cf:iG)(ts:T ah)(ds:ae Deferred)(m:FrameMode)(h:IH)(K:jB->IH->Prop):Prop:=
 ∀β w (F:Frame) cs fn,l9 P β->WR P β h w->MR β m F.mode->wM β ds F.defers->(∀i,VR β (dS ts i) (F.tmps.getD i undef))->P.funcs[F.fn]? =some fn->xS P fn=some cf->
  ∃r h' β' w' F1 r',K r h'/\WR P β' h' w'/\Eff β h w β' h' w'/\RR β' r r'/\Steps P (lone F cs w) (lone F1 cs w')/\F1.kind=F.kind/\F1.fn=F.fn/\F1.going P w' r'
def nM.call{q:iI}{h:IH}{K:KR}(hM:nM P q h K)(hq:q.pm=none){β:aJ}{w:World}{fn':Fn}{args' cap':ae ah}(hG:l9 P β)(hW:WR P β h w)(hf:FR β q.fn fn')(ha:aW β q.args args')(hc:aW β q.captured cap'):
 ∃nx F0,(invoke (.fn fn' ⟨cap'⟩) ⟨args'⟩).run P w=.ok nx w/\entry P .normal nx=some F0/\
  ∀c rest,∃r h' β' w' r',K r none h'/\WR P β' h' w'/\Eff β h w β' h' w'/\RR β' r r'/\Steps P (lone F0 (c::rest) w) (lone (recv c r') rest w'):=by
 obtain⟨nx,F0,h1,h2,h3⟩:=hM β w fn' args' cap' hG hW hf ha hc;rw[hq]at h2;refine⟨nx,F0,h1,h2,λc rest=>?_⟩;obtain⟨r,pm',h',β',w',r',cs1,q1,q2,q3,q4,q5,q6⟩:=h3 (c::rest) (by rw[hq];simp);rw[hq]at q5;cases q5;refine⟨r,h',β',w',r',q1,q2,q3,q4,?_⟩;rcases q6 with⟨f,args,F1,_,s1,s2,s3,s4⟩|⟨_,s1⟩
 .rw[hq]at s3;refine s1.trans (.one ?_);cases q4 with
  |ok hv=>
   obtain⟨t1,t2,fn,t3,t4⟩:=s4;exact step_leave_returned ⟨t1,t2,s3,fn,t3,t4⟩
  |gI hch=>
   obtain⟨t1,t2,fn,t3⟩:=s4;exact step_leave_panicked ⟨t1,t2,fn,t3⟩
 .exact s1 c rest rfl
section
variable {ds:ae Tmp} {a:bi} {h:IH} {K:KO}
def afq(hk:K .normal a h):qx P ds [] a h K:=by
 intro ops bR hv rest done S hp hds β0 h0 w0 kW jX cs0 β w b tm df k cs ρ hG hdom hcx hI hR hcs hro;cases rest with
 |cons i rest=>obtain⟨_,s,re,r,hl,_⟩:=hp;cases hl
 |nil=>
  obtain⟨β',w',tm',s1,s0,s2,s3,s4⟩:=Inv.finish hG hdom hp.2 b k cs ρ S β w tm hI hR;exact⟨.normal,a,h,β',w',tm',df,cs,hk,s3,s4,s2,hcs.mono s0,hro,s1⟩
variable{s:bN}{l:ae bN}
def come{ops:Array Oper}{bR:Nat->Nat->Bool}{hv:Nat->Bool}{i:Nat}{rest done S:ae Nat}(hp:Ck P ops bR hv (i::rest) done (s::l))(lD:hv i=true)
 {β0:aJ} {h0:IH} {w0:World} (hG:l9 P β0) (hdom:∀i g,β0 i=some g->i<h0.next) {β:aJ} {w:World} {tm:Array ah} {df:ae Deferred} (hI:Inv P ops hv bR β0 h0 w0 done S β a h w tm df) {ρ:ae Nat} (hR:yc ops bR S ρ) (b:Frame) (k:ae Item) (cs:ae Frame):
 ∃o S' β' w' tm' ρ',ops[i]? =some o/\cop P o=some s.s.op/\s.s.dst=o.dst/\Steps P (lone (fr b tm df (.inRegion ops ρ::k)) cs w) (lone (fr b tm' df (.inRegion ops (i::ρ')::k)) cs w')/\β.le β'/\Inv P ops hv bR β0 h0 w0 done S' β' a h w' tm' df/\
  yc ops bR (i::S') ρ'/\x9 ops bR hv done i/\Ck P ops bR hv rest (i::done) l/\(∀j,bR i j=true->j∈S')/\(∀r,a.wants s.s.guard=some r->Region.wanted o (yielded ops tm')=r)/\l9 P β'/\(∀x∈o.op.operands,VR β' (a.eval x) (Act.eval ⟨tm',df⟩ x))/\
  (∀j∈done,j∉S'->∀t,lQ P ops j=some t->Fu t.op=true->t∈s.re):=by
 obtain⟨hstep,s1,re,r,hl,hcs,_,hre,og⟩:=hp;simp only[BV]at hl;obtain⟨rfl,rfl⟩:=hl;obtain⟨o,ho,iC,hdst,yf,hgd⟩:=qM hcs;obtain⟨S',β',w',tm',ρ',t1,t0,t2,t3⟩:=Inv.flush hG hdom hstep lD (λx hx hxd hxi FQ=>afm P ops bR hv rest (i::done) l og i s7 lD x hx (by simp[hxd,hxi]) FQ) b k cs ρ S β w tm hI hR;obtain⟨r1,r2,r3,r4⟩:=t3;have Xo:∀t,t∈looks ops o->¬waits ops done S' t:=by
  rintro t ht ⟨y,p,hy,hys,hp',mQ⟩;exact hys (r3 y (hstep.look o ho y hy p hp' t mQ ht))
 have hG':l9 P β':=hG.le (t2.wO.le hdom);refine⟨o,S',β',w',tm',ρ',ho,iC,hdst,t1,t0,t2,r4,hstep,og,r3,λr hr=>Lv hgd t2.act Xo hr,hG',λx hx=>t2.act.eval hG' (yf x hx) λt ht=>Xo t (IR (.inl ⟨x,hx,ht⟩)),?_⟩;intro j hj hjs t ht hrd;have hb:bR i j=false:=by
  cases hh:bR i j with
  |false=>rfl
  |true=>exact absurd (r3 j hh) hjs
 exact hre lD j hj (t2.Qn hj hjs) hb t ht hrd
def afr(hw:a.wants s.s.guard=some false)(ih:qx P ds l (a.put s.s.dst wF) h K):qx P ds (s::l) a h K:=by
 intro ops bR hv rest done S hp hds β0 h0 w0 kW jX cs0 β w b tm df k cs ρ hG hdom hcx hI hR hcs hro;cases rest with
 |nil=>cases hp.1
 |cons i rest=>
  cases lD:hv i with
  |false=>
   obtain⟨hstep,s1,re,r,hl,hc1,hlt,_,og⟩:=hp;simp only[BV]at hl;obtain⟨rfl,rfl⟩:=hl;obtain⟨o,ho,_⟩:=qM hc1;have hI2:=hI.ahead hstep lD ho hc1 (hlt lD) (.inl ⟨hw,rfl,rfl⟩);exact gE
  |true=>
   obtain⟨o,S',β',w',tm',ρ',ho,iC,hdst,t1,t0,t2,r4,hstep,og,hpre,hwant,hG',vF,hrr⟩:=come hp lD hG hdom hI hR b k cs;have hs:=Xe (P:=P) (b:=b) (tm:=tm') (df:=df) (k:=k) (cs:=cs) (w:=w') (ops:=ops) (i:=i) (rest:=ρ') (by simp[ho,hwant _ hw]);rw[ho]at hs;simp only[iL]at hs;have hI2:=t2.sync hstep ho hpre (Eff.refl _ _ _ t2.wr.dom) t2.wr (v:=wF) (v':=undef) .skip (a2:=a.put s.s.dst wF) (λt=>by rw[hdst]) (sK _ _ _) (df2:=df) xo (.inl rfl);exact e9
def afs(hw:a.wants s.s.guard=some true)(v:ah)(h':IH)(hr:s.s.op.run P a.eval h=some (v,h'))
 (hre:∀r∈s.re,(a.put s.s.dst v).wants r.guard≠some false->∃u h2,r.op.run P (a.put s.s.dst v).eval h'=some (u,h2)/\∀d,r.dst=some d->dS (a.put s.s.dst v).tmps d=u)
 (ih:qx P ds l (a.put s.s.dst v) h' K):qx P ds (s::l) a h K:=by
 intro ops bR hv rest done S hp hds β0 h0 w0 kW jX cs0 β w b tm df k cs ρ hG hdom hcx hI hR hcs hro;cases rest with
 |nil=>cases hp.1
 |cons i rest=>
  cases lD:hv i with
  |false=>
   obtain⟨hstep,s1,re,r,hl,hc1,hlt,_,og⟩:=hp;simp only[BV]at hl;obtain⟨rfl,rfl⟩:=hl;obtain⟨o,ho,_⟩:=qM hc1;have hI2:=hI.ahead hstep lD ho hc1 (hlt lD) (.inr ⟨hw,hr⟩);exact gE
  |true=>
   obtain⟨o,S',β',w',tm',ρ',ho,iC,hdst,t1,t0,t2,r4,hstep,og,hpre,hwant,hG',vF,hrr⟩:=come hp lD hG hdom hI hR b k cs;obtain⟨nx,w2,β2,v',g1,g2,g3,g4,g5⟩:=Xc (ρ':=Act.eval ⟨tm',df⟩) iC vF hr t2.wr;have hnd:∀c,o.op≠.defer c:=by
    intro cl hcl;obtain⟨dd,op,ty,ps,af,gd⟩:=o;simp only at hcl;subst hcl;obtain⟨callee,args,ats⟩:=cl;cases callee with
    |value f=>simp only[cop,aN]at iC;rw[<- iC]at hr;cases hr
    |invoke x n=>simp[cop]at iC
    |builtin bb=>simp[cop]at iC
   have hs:=Lt (P:=P) (b:=b) (k:=k) (cs:=cs) (rest:=ρ') ho (hwant _ hw) (.inr hnd) g1 g2;have hle:=g5.le t2.wr.dom;have hI2:=t2.sync hstep ho hpre g5 g4 g3 (a2:=a.put s.s.dst v) (λt=>by rw[hdst]) (sK _ _ _) (df2:=df) C2
    (.inr λj hj hjs t ht hrd hwt=>hre t (hrr j hj hjs t ht hrd) hwt)
   exact .of_steps (t1.trans (.one hs)) (ih ops bR hv rest (i::done) (i::S') og hds β0 h0 w0 kW jX cs0 β2 w2 b _ df k cs ρ' hG hdom hcx hI2 r4 C3 us)
end
end Go.Ideal
namespace Go.Ideal
section
variable (P:Program)
mutual
inductive EV:dz->bi->IH->KO->Prop
 |skip {a:bi} {h:IH} {K:KO} (hk:K .normal a h):EV .skip a h K
 |ops {ds:List Tmp} {l:List bN} {a:bi} {h:IH} {K:KO} (ho:aM ds l a h K):EV (.ops ds l) a h K
 |seq {x y:dz} {a:bi} {h:IH} {K:KO} (M:KO) (h1:EV x a h M) (h2:∀a' h',M .normal a' h'->EV y a' h' K)
   (h3:∀o a' h',M o a' h'->o≠.normal->K o a' h'):EV (.seq x y) a h K
 |Qx {c:Operand} {x y:dz} {a:bi} {h:IH} {K:KO} (hc:a.eval c=.bool true) (h1:EV x a h K):EV (.cond c x y) a h K
 |Qy {c:Operand} {x y:dz} {a:bi} {h:IH} {K:KO} (hc:a.eval c=.bool false) (h1:EV y a h K):EV (.cond c x y) a h K
 |block {id:Nat} {c:dz} {a:bi} {h:IH} {K:KO} (M:KO) (h1:EV c a h M) (h2:∀o a' h',M o a' h'->K (inBlock id o) a' h'):EV (.block id c) a h K
 |loop {c:dz} {a:bi} {h:IH} {K:KO} (M:KO) (h1:EV c a h M) (h2:∀a' h',M .normal a' h'->EV (.loop c) a' h' K)
   (h3:∀o a' h',M o a' h'->o≠.normal->K o a' h'):EV (.loop c) a h K
 |scope {c:dz} {a:bi} {h:IH} {K:KO} (h1:EV c a h K):EV (.scope c) a h K
 |exit {id:Nat} {a:bi} {h:IH} {K:KO} (hk:K (.exit id) a h):EV (.exit id) a h K
 |ret {a:bi} {h:IH} {K:KO} (hk:K .ret a h):EV .ret a h K
 |rangeFunc {f:Operand} {ps:List Tmp} {assign body:dz} {a:bi} {h:IH} {K:KO} (fn:Fn) (first captured:List Value)
   (hf:a.eval f=.func fn ⟨first⟩ ⟨captured⟩) (a1:bi) (h1:IH) (r:Nat)
   (hr:(a.ro=none/\a1={a with defers:={target:=.collected h.next,args:= #[]}::a.defers}/\h1=h.new (.jo true)/\r=h.next)\/
     (∃l0 r0,a.ro=some l0/\a1=a/\h1=h/\h.get l0=some (.loop r0)/\r=r0.defers))
   (M:KR)
   (hc:CALL ⟨fn,lM first [.func (.yield h1.next) #[] #[]],captured,none⟩
     (h1.new (.loop {state:=.ready,pending:=none,tmps:=a.tmps,n:=a.n,params:=ps,assign,body,defers:=r})) M)
   (hok:∀v pm h2,M (.ok v) pm h2->∃lp,h2.get h1.next=some (.loop lp)/\lp.state≠.busy/\K (lp.pending.getD .normal) a1 (h2.set h1.next (.loop {lp with state:=.exhausted})))
   (jC:∀ch pm h2,M (.gI ch) pm h2->K (.panic ch) a1 h2):EV (.rangeFunc f ps assign body) a h K
 |weaken {c:dz} {a:bi} {h:IH} {K:KO} (a0:bi) (hw:∀i,dS a0.tmps i=dX\/dS a0.tmps i=dS a.tmps i)
   (hn:a0.n=a.n/\a0.defers=a.defers/\a0.pm=a.pm/\a0.ro=a.ro) (h1:EV c a0 h K):EV c a h K
inductive aM:List Tmp->List bN->bi->IH->KO->Prop
 |nil {ds:List Tmp} {a:bi} {h:IH} {K:KO} (hk:K .normal a h):aM ds [] a h K
 |skip {ds:List Tmp} {s:bN} {l:List bN} {a:bi} {h:IH} {K:KO} (hw:a.wants s.s.guard=some false) (h1:aM ds l (a.put s.s.dst wF) h K):aM ds (s::l) a h K
 |mg {ds:List Tmp} {s:bN} {l:List bN} {a:bi} {h:IH} {K:KO} (hw:a.wants s.s.guard=some true) (v:Value) (h':IH) (hr:s.s.op.run P a.eval h=some (v,h'))
   (hs:∀r∈s.re,(a.put s.s.dst v).wants r.guard≠some false->∃u h2,r.op.run P (a.put s.s.dst v).eval h'=some (u,h2)/\∀d,r.dst=some d->dS (a.put s.s.dst v).tmps d=u)
   (h1:aM ds l (a.put s.s.dst v) h' K):aM ds (s::l) a h K
 |call {ds:List Tmp} {s:bN} {l:List bN} {a:bi} {h:IH} {K:KO} (hw:a.wants s.s.guard=some true) (q:iI) (hq:Ap s.s.op a.eval=some q) (M:KR) (hc:CALL q h M)
   (hs:∀v pm h',M (.ok v) pm h'->∀r∈s.re,(a.put s.s.dst v).wants r.guard≠some false->∃u h2,r.op.run P (a.put s.s.dst v).eval h'=some (u,h2)/\∀d,r.dst=some d->dS (a.put s.s.dst v).tmps d=u)
   (hok:∀v pm h',M (.ok v) pm h'->aM ds l (a.put s.s.dst v) h' K)
   (jC:∀ch pm h',M (.gI ch) pm h'->K (.panic ch) (forget ds a) h'):aM ds (s::l) a h K
 |Qz {ds:List Tmp} {s:bN} {l:List bN} {a:bi} {h:IH} {K:KO} (hw:a.wants s.s.guard=some true) (ho:s.s.op=.recover) (hre:s.re=[]) (hm:a.pm=none) (hro:a.ro=none)
   (h1:aM ds l (a.put s.s.dst .nilIface) h K):aM ds (s::l) a h K
 |recoverD {ds:List Tmp} {s:bN} {l:List bN} {a:bi} {h:IH} {K:KO} (hw:a.wants s.s.guard=some true) (ho:s.s.op=.recover) (hre:s.re=[]) (m:FrameMode) (hm:a.pm=some m) (hro:a.ro=none)
   (h1:aM ds l ({a with pm:=some (kV m).2}.put s.s.dst (kV m).1) h K):aM ds (s::l) a h K
 |panic {ds:List Tmp} {s:bN} {l:List bN} {a:bi} {h:IH} {K:KO} (hw:a.wants s.s.guard=some true) (x:Operand) (ho:s.s.op=.panic x) (t:TypeId) (v:Value) (hx:a.eval x=.iface t v)
   (hk:K (.panic [{v:=.iface t v,recovered:=false}]) (forget ds a) h):aM ds (s::l) a h K
 |defer {ds:List Tmp} {s:bN} {l:List bN} {a:bi} {h:IH} {K:KO} (hw:a.wants s.s.guard=some true) (f:Operand) (args:List Operand) (ho:s.s.op=.dcall f args) (hre:s.re=[]) (hro:a.ro=none)
   (fn:Fn) (first captured:List Value) (hf:a.eval f=.func fn ⟨first⟩ ⟨captured⟩)
   (h1:aM ds l ({a with defers:={target:=.fn fn ⟨captured⟩,args:=⟨lM first (nZ a.eval args)⟩}::a.defers}.put s.s.dst dX) h K):aM ds (s::l) a h K
 |next {ds:List Tmp} {s:bN} {l:List bN} {a:bi} {h:IH} {K:KO} (hw:a.wants s.s.guard=some true) (x:Operand) (ho:s.s.op=.Ak x) (hre:s.re=[]) (alts:List (Value×IH))
   (ha:DX (a.eval x) h=some alts) (h1:∀vh∈alts,aM ds l (a.put s.s.dst vh.1) vh.2 K):aM ds (s::l) a h K
inductive LEAVE:iG->T Value->List Deferred->FrameMode->IH->(jB->IH->Prop)->Prop
 |ret {cf:iG} {ts:T Value} {h:IH} {K:jB->IH->Prop} (v:Value) (hv:uo cf.results ts h=some v) (hk:K (.ok v) h):LEAVE cf ts [] .returning h K
 |gI {cf:iG} {ts:T Value} {h:IH} {K:jB->IH->Prop} (ch:List PanicEntry) (hk:K (.gI ch) h):LEAVE cf ts [] (.panicking ch) h K
 |coll {cf:iG} {ts:T Value} {args:Array Value} {ds:List Deferred} {m:FrameMode} {h:IH} {K:jB->IH->Prop} (hm:m≠.run) (r:Nat) (hr:h.get r=some (.jo true))
   (h1:LEAVE cf ts ds m (h.set r (.jo false)) K):LEAVE cf ts ({target:=.collected r,args}::ds) m h K
 |call {cf:iG} {ts:T Value} {fn:Fn} {captured args:List Value} {ds:List Deferred} {m:FrameMode} {h:IH} {K:jB->IH->Prop} (hm:m≠.run) (M:KR)
   (hc:CALL ⟨fn,args,captured,some m⟩ h M)
   (hpm:∀r pm h',M r pm h'->pm≠none)
   (hok:∀v m' h',M (.ok v) (some m') h'->LEAVE cf ts ds (Cc m') h' K)
   (jC:∀ch m' h',M (.gI ch) (some m') h'->LEAVE cf ts ds (Fv m' ch) h' K):LEAVE cf ts ({target:=.fn fn ⟨captured⟩,args:=⟨args⟩}::ds) m h K
inductive CALL:iI->IH->KR->Prop
 |enter {q:iI} {h:IH} {K:KR} (f:FuncId) (args:List Value) (ht:target P q=some (f,args)) (fn:Func) (hf:P.funcs[f]? =some fn) (cf:iG) (hcf:xS P fn=some cf)
   (M:KO) (h1:EV cf.body (DW cf.ntmps args q.pm) h M)
   (h2:∀o a' h',M o a' h'->wJ o≠none)
   (h3:∀o a' h' m,M o a' h'->wJ o=some m->LEAVE cf a'.tmps a'.defers m h' λr h''=>K r a'.pm h''):CALL q h K
 |round {q:iI} {h:IH} {K:KR} (l:Nat) (hq:q.fn=.yield l) (hpm:q.pm=none) (r:pz) (hr:h.get l=some (.loop r)) (hargs:q.args.length=r.params.length)
   (M:KO) (h1:EV r.assign {n:=r.n,tmps:=xU r.n r.params q.args r.tmps,defers:=[],pm:=none,ro:=some l} h M)
   (h2:∀o a' h',M o a' h'->o=.normal/\∃r1,h'.get l=some (.loop r1)/\r1.state=.ready)
   (h3:∀a' h' r1,M .normal a' h'->h'.get l=some (.loop r1)->
     EV r.body a' (h'.set l (.loop {r1 with state:=.busy})) λo a'' h''=>∃r2,h''.get l=some (.loop r2)/\a''.defers=[]/\
      match o with
      | .panic ch=>K (.gI ch) none h''
      | .normal=>K (.ok (.bool true)) none (h''.set l (.loop {r2 with state:=.ready,pending:=none}))
      |o=>K (.ok (.bool false)) none (h''.set l (.loop {r2 with state:=.done,pending:=some o}))):CALL q h K
 |cut {q:iI} {h:IH} {K:KR} (cs:List Value) (n f:Nat) (hcs:iU cs=true) (hne:cs≠[]) (hf:f=0\/cs.length=n*f) (M:KR) (hc:CALL q {h with low:=h.next} M) (hq:q.pm=none)
   (h1:∀r pm h',M r pm h'->pm=none/\h'.low=h.next/\∃i o c,r=.ok (.slice (some ⟨i,o,some f⟩) n c)/\h.next<=i/\(f=0->c=n)/\h'.qj i o cs.length=some cs)
   (hk:K (.ok (.slice (some ⟨h.next,0,some f⟩) n n)) none (h.new (.cells cs))):CALL q h K
 |uy {q:iI} {h:IH} {K:KR} (M:KR) (hc:CALL q h M) (hk:∀r pm h',M r pm h'->K r pm h'):CALL q h K
 |forget {q:iI} {h:IH} {K:KR} (M:KR) (hc:CALL q h M)
   (hk:∀r pm h',M r pm h'->∃h'',h''.next=h'.next/\h''.low=h'.low/\(∀i,h''.get i=h'.get i\/(h.next<=i/\h''.get i=none))/\K r pm h''):CALL q h K
 |memo {q:iI} {h:IH} {K:KR} (h0:IH) (v:Value) (hv:dG v=true) (hq:q.pm=none) (hfn:qm h0.next (.func q.fn ⟨q.args⟩ ⟨q.captured⟩)=true)
   (hnext:h0.next<=h.next) (hgl:P.globals.size<=h0.next)
   (hsub:∀i o,h0.get i=some o->i<h0.next/\h.get i=some o/\Ig h0.next o=true)
   (M:KR) (hc:CALL q h0 M) (h1:∀r pm h',M r pm h'->pm=none/\r=.ok v/\h'.low=h0.next)
   (hk:K (.ok v) none h):CALL q h K
 /-- a call that is known of the model itself -/
 |real {q:iI} {h:IH} {K:KR} (hm:nM P q h K):CALL q h K
end
end
end Go.Ideal
namespace Go.Ideal
variable {P:Program}
variable{o:Oper}{args:ae ay}{f:ay}
def aft(hc:cop P o=some (.call f args)):∃cl,o.op=.call cl/\cl.callee=.value f/\cl.args.toList=args:=by
 obtain⟨dst,op,type,pos,after,guard⟩:=o;simp only[cop]at hc;repeat' split at hc
 all_goals first
  |contradiction
  |(cases hc;done)
  |(simp only[aN,reduceCtorEq]at hc;done)
  |(simp only[kg,reduceCtorEq,and_false,exists_false]at hc;done)
  |(simp only[aN,aK.call.injEq]at hc
    obtain⟨rfl,rfl⟩:=hc;exact⟨_,rfl,rfl,rfl⟩)
variable{x:ay}
def afu{n:String}(hc:cop P o=some (.invoke x n args)):∃cl,o.op=.call cl/\cl.callee=.invoke x n/\cl.args.toList=args:=by
 obtain⟨dst,op,type,pos,after,guard⟩:=o;simp only[cop]at hc;repeat' split at hc
 all_goals first
  |contradiction
  |(cases hc;done)
  |(simp only[aN,reduceCtorEq]at hc;done)
  |(simp only[kg,reduceCtorEq,and_false,exists_false]at hc;done)
  |(simp only[aN,aK.invoke.injEq]at hc
    obtain⟨rfl,rfl,rfl⟩:=hc;exact⟨_,rfl,rfl,rfl⟩)
def afv(hc:cop P o=some .recover):∃cl,o.op=.call cl/\cl.callee=.builtin .recover:=by
 obtain⟨dst,op,type,pos,after,guard⟩:=o;simp only[cop]at hc;repeat' split at hc
 all_goals first
  |contradiction
  |(cases hc;done)
  |(simp only[aN,reduceCtorEq]at hc;done)
  |(simp only[kg,reduceCtorEq,and_false,exists_false]at hc;done)
  |exact⟨_,rfl,rfl⟩
def afw(hc:cop P o=some (.panic x)):o.op=.panic x\/∃cl,o.op=.call cl/\cl.callee=.builtin .panic/\cl.args.toList=[x]:=by
 obtain⟨dst,op,type,pos,after,guard⟩:=o;simp only[cop]at hc;repeat' split at hc
 all_goals first
  |contradiction
  |(cases hc;done)
  |(simp only[aN,reduceCtorEq]at hc;done)
  |(simp only[kg,reduceCtorEq,and_false,exists_false]at hc;done)
  |(simp only[aN,aK.panic.injEq]at hc;subst hc;exact .inl rfl)
  |(simp only[aN,aK.panic.injEq]at hc;subst hc;exact .inr ⟨_,rfl,rfl,by assumption⟩)
def afx(hc:cop P o=some (.dcall f args)):∃cl,o.op=.defer cl/\cl.callee=.value f/\cl.args.toList=args:=by
 obtain⟨dst,op,type,pos,after,guard⟩:=o;simp only[cop]at hc;repeat' split at hc
 all_goals first
  |contradiction
  |(cases hc;done)
  |(simp only[aN,reduceCtorEq]at hc;done)
  |(simp only[kg,reduceCtorEq,and_false,exists_false]at hc;done)
  |(simp only[aN,aK.dcall.injEq]at hc
    obtain⟨rfl,rfl⟩:=hc;exact⟨_,rfl,rfl,rfl⟩)
def afy(hc:cop P o=some (.Ak x)):o.op=.next x false:=by
 obtain⟨dst,op,type,pos,after,guard⟩:=o;simp only[cop]at hc;repeat' split at hc
 all_goals first
  |contradiction
  |(cases hc;done)
  |(simp only[aN,reduceCtorEq]at hc;done)
  |(simp only[kg,reduceCtorEq,and_false,exists_false]at hc;done)
  |(simp only[aN,aK.Ak.injEq]at hc;subst hc;rfl)
variable{c:aK}{q:iI}{β:aJ}{ρ:ay->ah}
def afz{ρ':ay->ah}(hc:cop P o=some c)(hq:Ap c ρ=some q)(hρ:∀x∈o.op.operands,VR β (ρ x) (ρ' x)):
 q.pm=none/\∃fn' args' cap',FR β q.fn fn'/\aW β q.args args'/\aW β q.captured cap'/\(∀w,(execOp ρ' o).run P w=(invoke (.fn fn' ⟨cap'⟩) ⟨args'⟩).run P w)/\∃cl,o.op=.call cl:=by
 unfold Ap at hq;split at hq
 .rename_i f args;obtain⟨cl,h1,h2,h3⟩:=aft hc;obtain⟨callee,mR,ats⟩:=cl;simp only at h2 h3;subst h2 h3;have hops:∀x∈(Op.call {callee:=.value f,args:=mR,argTypes:=ats}).operands,VR β (ρ x) (ρ' x):=by rw[<- h1];exact hρ
  have hf:=hops f AM;have ha:∀x∈mR.toList,VR β (ρ x) (ρ' x):=λx hx=>hops x GS;split at hq
  .rename_i fn first captured Az
   simp only[aN]at hq;subst hq;rw[Az]at hf;obtain⟨fn',f',c',k1,k2,k3,k4⟩:=hf.Cg;refine⟨rfl,fn',f'++mR.toList.map ρ',c',k1,?_,k3,λw=>?_,_,h1⟩
   .show aW β (lM first (nZ ρ mR.toList)) _;rw[jW];exact k2.append (aW.of_map ha)
   .obtain⟨dst,op,type,pos,after,guard⟩:=o;simp only at h1;subst h1;have he:(⟨f'⟩:Array ah)++mR.map ρ'=⟨f'++mR.toList.map ρ'⟩:=by apply Array.ext';simp
    exact qn
  .cases hq
 .rename_i x name args;obtain⟨cl,h1,h2,h3⟩:=afu hc;obtain⟨callee,mR,ats⟩:=cl;simp only at h2 h3;subst h2 h3;have hops:∀y∈(Op.call {callee:=.invoke x name,args:=mR,argTypes:=ats}).operands,VR β (ρ y) (ρ' y):=by rw[<- h1];exact hρ
  have hx:=hops x AM;have ha:∀x∈mR.toList,VR β (ρ x) (ρ' x):=λx hx=>hops x GS;simp only[aN]at hq;subst hq;refine⟨rfl,.method name,ρ' x::mR.toList.map ρ',[],.method name,.cons hx (aW.of_map ha),.nil,λw=>?_,_,h1⟩;obtain⟨dst,op,type,pos,after,guard⟩:=o;simp only at h1;subst h1;have he:(#[ρ' x]:Array ah)++mR.map ρ'=⟨ρ' x::mR.toList.map ρ'⟩:=uv
  simp only[execOp,resolve,dM,fG,dR,he]
 .cases hq
def afA(hq:Ap c ρ=some q):heavy c=true:=by
 unfold Ap at hq;split at hq
 .rfl
 .rfl
 .cases hq
def afB(d:Tmp)(ds:ae Tmp)(a:bi):forget (d::ds) a=forget ds (a.set d dX):=rfl
def QA(ds:ae Tmp):∀(a:bi),(∀i,a.n<=i->dS a.tmps i=dX)->(forget ds a).n=a.n/\(forget ds a).defers=a.defers/\(forget ds a).pm=a.pm/\(forget ds a).ro=a.ro/\(∀i,a.n<=i->dS (forget ds a).tmps i=dX)/\
 ∀t,dS (forget ds a).tmps t=dX\/(t∉ds/\dS (forget ds a).tmps t=dS a.tmps t):=by
 induction ds with
 |nil=>intro a ho;exact⟨rfl,rfl,rfl,rfl,ho,λt=>.inr ⟨s7,rfl⟩⟩
 |cons d ds ih=>
  intro a ho;rw[afB];have hput:a.set d dX=a.put (some d) dX:=rfl;have ho2:∀i,(a.set d dX).n<=i->dS (a.set d dX).tmps i=dX:=λi hi=>by
   rw[hput,sK]at hi;rw[hput,wP,if_neg (λhc=>by have:=hc.2;omega)];exact ho i hi
  obtain⟨h1,h2,h3,h4,h5,h6⟩:=ih (a.set d dX) ho2;rw[hput,sK]at h1 h5;rw[hput,put_defers]at h2;rw[hput,yg]at h3;rw[hput,yj]at h4;refine⟨h1,h2,h3,h4,h5,λt=>?_⟩;rcases h6 t with e|⟨e1,e2⟩
  .exact .inl e
  .rw[hput,wP]at e2;by_cases hd:some d=some t/\t<a.n
   .rw[if_pos hd]at e2;exact .inl e2
   .rw[if_neg hd]at e2;by_cases hdt:d=t
    .subst hdt;have hge:a.n<=d:=Nat.le_of_not_lt λhh=>hd ⟨rfl,hh⟩;exact .inl (e2.trans (ho d hge))
    .refine .inr ⟨?_,e2⟩;intro hc;rcases bH.1 hc with e|e
     .exact hdt e.symm
     .exact e1 e
def AR.forget{X:Nat->Prop}{a:bi}{tm:Array ah}{df:ae Deferred}(k:AR β X a tm df){ds:ae Tmp}(h:∀t,X t->t∈ds):AR β none' (Ideal.forget ds a) tm df:=by
 obtain⟨h1,h2,h3,h4,h5,h6⟩:=QA ds a k.out;refine⟨by rw[h1];exact k.size,λt _=>?_,by rw[h1];exact h5,by rw[h2];exact k.defers⟩;rcases h6 t with e|⟨e1,e2⟩
 .rw[e];exact .dX _
 .rw[e2];exact k.tmps t λhx=>e1 (h t hx)
section
variable {ds:ae Tmp} {a:bi} {h:IH} {K:KO}
variable{s:bN}{l:ae bN}
def FV{ops:Array Oper}{bR:Nat->Nat->Bool}{hv:Nat->Bool}{i:Nat}{rest done:ae Nat}(hp:Ck P ops bR hv (i::rest) done (s::l))(hh:heavy s.s.op=true):hv i=true:=by
 obtain⟨_,s1,re,r,hl,_,hlt,_⟩:=hp;simp only[BV]at hl;obtain⟨rfl,rfl⟩:=hl;cases lD:hv i with
 |true=>rfl
 |false=>rw[hlt lD]at hh;cases hh
def afC(hw:a.wants s.s.guard=some true)(q:iI)(hq:Ap s.s.op a.eval=some q)(M:KR)(hc:nM P q h M)
 (hre:∀v pm h',M (.ok v) pm h'->∀r∈s.re,(a.put s.s.dst v).wants r.guard≠some false->∃u h2,r.op.run P (a.put s.s.dst v).eval h'=some (u,h2)/\∀d,r.dst=some d->dS (a.put s.s.dst v).tmps d=u)
 (ih:∀v pm h',M (.ok v) pm h'->qx P ds l (a.put s.s.dst v) h' K)
 (jC:∀ch pm h',M (.gI ch) pm h'->K (.panic ch) (forget ds a) h'):qx P ds (s::l) a h K:=by
 intro ops bR hv rest done S hp hds β0 h0 w0 kW jX cs0 β w b tm df k cs ρ hG hdom hcx hI hR hcs hro;cases rest with
 |nil=>cases hp.1
 |cons i rest=>
  have lD:=FV hp (afA hq);obtain⟨o,S',β',w',tm',ρ',ho,iC,hdst,t1,t0,t2,r4,hstep,og,hpre,hwant,hG',vF,hrr⟩:=come hp lD hG hdom hI hR b k cs;obtain⟨afD,fn',args',cap',k1,k2,k3,k4,cl,k5⟩:=afz (ρ':=Act.eval ⟨tm',df⟩) iC hq vF;have hnd:∀c,o.op≠.defer c:=by rw[k5];simp
  obtain⟨nx,F0,n1,n2,n3⟩:=hc.call afD hG' t2.wr k1 k2 k3;rw[<- k4]at n1;have henter:step P (lone (fr b tm' df (.inRegion ops (i::ρ')::k)) cs w')=.next (lone F0 (fr b tm' df (.inRegion ops (i::ρ')::k)::cs) w'):=by
   cases nx<;>simp only[entry,aN,reduceCtorEq]at n2
   .subst n2;exact afe ho (hwant _ hw) (.inr hnd) n1
   .subst n2;exact aff ho (hwant _ hw) (.inr hnd) n1
  obtain⟨r,h',β2,w2,r',q1,q2,q3,q4,q5⟩:=n3 (fr b tm' df (.inRegion ops (i::ρ')::k)) cs;have hle:=q3.le t2.wr.dom;cases q4 with
  | @ok v v' hvv=>
    have hfin:recv (fr b tm' df (.inRegion ops (i::ρ')::k)) (.returned v')=fr b (rO tm' o.dst v') df (.inRegion ops ρ'::k):=by
     have:=IM (b:=b) (tm:=tm') (df:=df) (k:=k) (ops:=ops) (i:=i) (rest:=ρ') (v:=v');rw[ho]at this;exact this
    rw[hfin]at q5;have hI2:=t2.sync hstep ho hpre q3 q2 hvv (a2:=a.put s.s.dst v) (λt=>by rw[hdst]) (sK _ _ _) (df2:=df) C2
     (.inr λj hj hjs t ht hrd hwt=>hre v none h' q1 t (hrr j hj hjs t ht hrd) hwt)
    exact .of_steps (t1.trans (.head henter q5)) (ih v none h' q1 ops bR hv rest (i::done) (i::S') og hds β0 h0 w0 kW jX cs0 β2 w2 b _ df k cs ρ' hG hdom hcx hI2 r4 C3 us)
  | @gI ch ch' hch=>
    have hx:∀t,waits ops done S' t->t∈ds:=by
     exact rS
    obtain⟨f1,f2,f3,f4,_,_⟩:=QA ds a t2.act.out;refine .of_steps (t1.trans (.head henter q5)) ⟨.panic ch,forget ds a,h',β2,w2,tm',df,cs,jC ch none h' q1,q2,t2.wO.trans q3,(t2.act.forget hx).mono hle,by rw[f3];exact(hcs.mono t0).mono hle,by rw[f4];exact hro,.inRegion ops (i::ρ')::k,ch',hch,?_⟩;exact Steps.refl P _
def afE(hw:a.wants s.s.guard=some true)(x:ay)(hop:s.s.op=.panic x)(t:aD)(v:ah)(hx:a.eval x=.iface t v)
 (hk:K (.panic [{v:=.iface t v,recovered:=false}]) (forget ds a) h):qx P ds (s::l) a h K:=by
 intro ops bR hv rest done S hp hds β0 h0 w0 kW jX cs0 β w b tm df k cs ρ hG hdom hcx hI hR hcs hro;cases rest with
 |nil=>cases hp.1
 |cons i rest=>
  have lD:=FV hp wl;obtain⟨o,S',β',w',tm',ρ',ho,iC,hdst,t1,t0,t2,r4,hstep,og,hpre,hwant,hG',vF,hrr⟩:=come hp lD hG hdom hI hR b k cs;rw[hop]at iC;have hrun:∃v',VR β' v v'/\(execOp (Act.eval ⟨tm',df⟩) o).run P w'=.halt (.panic (.iface t v')) w'/\∀c,o.op≠.defer c:=by
   rcases afw iC with h1|⟨cl,h1,h2,h3⟩
   .have hxv:=vF x (by rw[h1];simp[Op.operands]);rw[hx]at hxv;obtain⟨v',hv',he⟩:=hxv.D9;refine⟨v',hv',?_,xp⟩;obtain⟨dst,op,type,pos,after,guard⟩:=o;simp only at h1;subst h1;simp[execOp,he,Instr.panic]
   .obtain⟨callee,mR,ats⟩:=cl;simp only at h2 h3;subst h2
    have hxv:=vF x (by rw[h1];simp only[Op.operands,Call.operands,BU];right;have:x∈mR.toList:=by rw[h3];simp
                       simpa using this)
    rw[hx]at hxv;obtain⟨v',hv',he⟩:=hxv.D9;obtain rfl:mR= #[x]:=by apply Array.ext';exact h3
    refine⟨v',hv',?_,xp⟩;obtain⟨dst,op,type,pos,after,guard⟩:=o;simp only at h1;subst h1;rw[Cj];simp[builtin,he,Instr.panic]
  obtain⟨v',hv',hr,hnd⟩:=hrun;have hs:=afg (P:=P) (b:=b) (k:=k) (cs:=cs) (rest:=ρ') ho (hwant _ hw) (.inr hnd) hr;have QB:∀t,waits ops done S' t->t∈ds:=by
   exact rS
  obtain⟨f1,f2,f3,f4,_,_⟩:=QA ds a t2.act.out;exact .of_steps (t1.trans (.one hs)) ⟨_,forget ds a,h,β',w',tm',df,cs,hk,t2.wr,t2.wO,t2.act.forget QB,by rw[f3];exact hcs.mono t0,by rw[f4];exact hro,.inRegion ops (i::ρ')::k,[{v:=.iface t v',recovered:=false}],.cons (.iface t hv') rfl rfl .nil,Steps.refl P _⟩
def afF(hw:a.wants s.s.guard=some true)(f:ay)(args:ae ay)(hop:s.s.op=.dcall f args)(hre:s.re=[])(IW:a.ro=none)
 (fn:Fn) (first captured:ae ah) (hf:a.eval f=.func fn ⟨first⟩ ⟨captured⟩)
 (ih:qx P ds l ({a with defers:={target:=.fn fn ⟨captured⟩,args:=⟨lM first (nZ a.eval args)⟩}::a.defers}.put s.s.dst dX) h K):qx P ds (s::l) a h K:=by
 intro ops bR hv rest done S hp hds β0 h0 w0 kW jX cs0 β w b tm df k cs ρ hG hdom hcx hI hR hcs hro;cases rest with
 |nil=>cases hp.1
 |cons i rest=>
  have lD:=FV hp wl;obtain⟨o,S',β',w',tm',ρ',ho,iC,hdst,t1,t0,t2,r4,hstep,og,hpre,hwant,hG',vF,hrr⟩:=come hp lD hG hdom hI hR b k cs;rw[hop]at iC;obtain⟨cl,h1,h2,h3⟩:=afx iC;obtain⟨callee,mR,ats⟩:=cl;simp only at h2 h3;subst h2 h3;have hops:∀x∈(Op.defer {callee:=.value f,args:=mR,argTypes:=ats}).operands,VR β' (a.eval x) (Act.eval ⟨tm',df⟩ x):=by rw[<- h1];exact vF
  have Az:=hops f AM;have IX:∀x∈mR.toList,VR β' (a.eval x) (Act.eval ⟨tm',df⟩ x):=λx hx=>hops x GS;rw[hf]at Az;obtain⟨fn',f',c',k1,k2,k3,k4⟩:=Az.Cg;have IY:b.roundOf=none:=by
   exact fS
  have hr:(execOp (Act.eval ⟨tm',df⟩) o).run P w'=.ok (.defer {target:=.fn fn' ⟨c'⟩,args:=⟨f'++mR.toList.map (Act.eval ⟨tm',df⟩)⟩}) w':=by
   obtain⟨dst,op,type,pos,after,guard⟩:=o;simp only at h1;subst h1;have he:(⟨f'⟩:Array ah)++mR.map (Act.eval ⟨tm',df⟩)=⟨f'++mR.toList.map (Act.eval ⟨tm',df⟩)⟩:=uv
   exact qn
  have hs:=afh (P:=P) (b:=b) (k:=k) (cs:=cs) (rest:=ρ') ho (hwant _ hw) IY hr;have hI2:=t2.sync hstep ho hpre (Eff.refl _ _ _ t2.wr.dom) t2.wr (v:=dX) (v':=undef) (.dX _) (a2:=({a with defers:={target:=.fn fn ⟨captured⟩,args:=⟨lM first (nZ a.eval mR.toList)⟩}::a.defers}:bi).put s.s.dst dX)
   (λt=>by rw[wP,wP,hdst]) (sK _ _ _) (df2:={target:=.fn fn' ⟨c'⟩,args:=⟨f'++mR.toList.map (Act.eval ⟨tm',df⟩)⟩}::df) (by
     rw[put_defers];refine .fn k1 k3 ?_ t2.act.defers;rw[jW];exact k2.append (aW.of_map IX)) (.inl rfl)
  exact .of_steps (t1.trans (.one hs)) (ih ops bR hv rest (i::done) (i::S') og hds β0 h0 w0 kW jX cs0 β' w' b _ _ k cs ρ' hG hdom hcx hI2 r4 (by rw[yg];exact hcs.mono t0) us)
def Xp{o:Oper}(hc:cop P o=some .recover)(ρ:ay->ah)(w:World):(execOp ρ o).run P w=.ok .recover w:=by
 obtain⟨cl,h1,h2⟩:=afv hc;obtain⟨callee,mR,ats⟩:=cl;simp only at h2;subst h2;obtain⟨dst,op,type,pos,after,guard⟩:=o;simp only at h1;subst h1;rw[Cj];rfl
def afG(hw:a.wants s.s.guard=some true)(hop:s.s.op=.recover)(hre:s.re=[])(hm:a.pm=none)(IW:a.ro=none)(ih:qx P ds l (a.put s.s.dst .nilIface) h K):qx P ds (s::l) a h K:=by
 intro ops bR hv rest done S hp hds β0 h0 w0 kW jX cs0 β w b tm df k cs ρ hG hdom hcx hI hR hcs hro;cases rest with
 |nil=>cases hp.1
 |cons i rest=>
  have lD:=FV hp wl;obtain⟨o,S',β',w',tm',ρ',ho,iC,hdst,t1,t0,t2,r4,hstep,og,hpre,hwant,hG',vF,hrr⟩:=come hp lD hG hdom hI hR b k cs;rw[hop]at iC;have IY:b.roundOf=none:=by
   exact fS
  have hkind:b.kind=.normal:=by
   have h1:=hcx.kind;rw[hm]at hcs;cases hcs;exact h1
  have hs:=Xf (P:=P) (b:=b) (df:=df) (k:=k) (cs:=cs) (rest:=ρ') ho (hwant _ hw) IY (Xp iC (Act.eval ⟨tm',df⟩) w');have htr:tryRecover (fr b tm' df (.inRegion ops (i::ρ')::k)) cs=none:=by
   have:(fr b tm' df (.inRegion ops (i::ρ')::k)).kind=.normal:=hkind;unfold tryRecover;rw[this]
  rw[htr]at hs;have hI2:=t2.sync hstep ho hpre (Eff.refl _ _ _ t2.wr.dom) t2.wr (v:=.nilIface) (v':=.nilIface) .nilIface (a2:=a.put s.s.dst .nilIface) (λt=>by rw[hdst]) (sK _ _ _) (df2:=df) xo (.inl rfl);exact e9
def afH{β:aJ}{m:FrameMode}{c:Frame}(hm:MR β m c.mode)(rest:ae Frame):(∃v' mr,recoverD (c::rest)=some (v',{c with mode:=mr}::rest)/\VR β (kV m).1 v'/\MR β (kV m).2 mr)\/(recoverD (c::rest)=none/\(kV m).1=.nilIface/\(kV m).2=m):=by
 cases hcm:c.mode with
 |run=>rw[hcm]at hm;cases hm;right;simp[recoverD,hcm,kV]
 |returning=>rw[hcm]at hm;cases hm;right;simp[recoverD,hcm,kV]
 |panicking ch=>
  rw[hcm]at hm;cases hm with
  |panicking hp=>
   cases hp with
   |nil=>right;simp[recoverD,hcm,kV]
   | @cons e e' l l' hv hr hg hl=>
     obtain⟨ev,er,eg⟩:=e';simp only at hv hr hg;cases her:e.recovered with
     |true=>right;rw[her]at hr;subst hr;simp[recoverD,hcm,kV,her]
     |false=>
      cases IZ:e.goexit with
      |true=>right;rw[IZ]at hg;subst hg;simp[recoverD,hcm,kV,her,IZ]
      |false=>
       rw[her]at hr;rw[IZ]at hg;subst hr hg;left;refine⟨ev,.panicking ({v:=ev,recovered:=true}::l'),by simp[recoverD,hcm],?_,?_⟩
       .simp only[kV,her,IZ,Bool.or_false,cond_false];exact hv
       .simp only[kV,her,IZ,Bool.or_false,cond_false];exact .panicking (.cons hv rfl rfl hl)
def afI(hw:a.wants s.s.guard=some true)(hop:s.s.op=.recover)(hre:s.re=[])(m:FrameMode)(hm:a.pm=some m)(IW:a.ro=none)
 (ih:qx P ds l ({a with pm:=some (kV m).2}.put s.s.dst (kV m).1) h K):qx P ds (s::l) a h K:=by
 intro ops bR hv rest done S hp hds β0 h0 w0 kW jX cs0 β w b tm df k cs ρ hG hdom hcx hI hR hcs hro;cases rest with
 |nil=>cases hp.1
 |cons i rest=>
  have lD:=FV hp wl;obtain⟨o,S',β',w',tm',ρ',ho,iC,hdst,t1,t0,t2,r4,hstep,og,hpre,hwant,hG',vF,hrr⟩:=come hp lD hG hdom hI hR b k cs;rw[hop]at iC;have IY:b.roundOf=none:=by
   exact fS
  have hcs2:=hcs.mono t0;rw[hm]at hcs2;have afJ:=hcx.kind;cases hcs2 with
  |some m0 _ c0 FW mr hmr=>
  have hkind:(fr b tm' df (.inRegion ops (i::ρ')::k)).kind=.deferred:=afJ;have hs:=Xf (P:=P) (b:=b) (df:=df) (k:=k) (cs:={c0 with mode:=mr}::FW) (rest:=ρ') ho (hwant _ hw) IY (Xp iC (Act.eval ⟨tm',df⟩) w');rw[tryRecover_deferred hkind]at hs;have sync:∀(v':ah),VR β' (kV m).1 v'->Inv P ops hv bR β0 h0 w0 (i::done) (i::S') β' ({a with pm:=some (kV m).2}.put s.s.dst (kV m).1) h w' (rO tm' o.dst v') df:=λv' hv'=>
   t2.sync hstep ho hpre (Eff.refl _ _ _ t2.wr.dom) t2.wr (v:=(kV m).1) (v':=v') hv' (a2:=({a with pm:=some (kV m).2}:bi).put s.s.dst (kV m).1)
    (λt=>by rw[wP,wP,hdst]) (sK _ _ _) (df2:=df) xo (.inl rfl)
  rcases afH (c:={c0 with mode:=mr}) hmr FW with⟨v',Qv,e1,e2,e3⟩|⟨e1,e2,e3⟩
  .rw[e1]at hs;exact .of_steps (t1.trans (.one hs)) (ih ops bR hv rest (i::done) (i::S') og hds β0 h0 w0 (some m0) jX (c0::FW) β' w' b _ df k _ ρ' hG hdom hcx (sync v' e2) r4 (by rw[yg];exact .some m0 _ c0 FW Qv e3) us)
  .rw[e1]at hs;exact .of_steps (t1.trans (.one hs)) (ih ops bR hv rest (i::done) (i::S') og hds β0 h0 w0 (some m0) jX (c0::FW) β' w' b _ df k _ ρ' hG hdom hcx (sync .nilIface (by rw[e2];exact .nilIface)) r4 (by rw[yg,e3];exact .some m0 _ c0 FW mr hmr) us)
end
end Go.Ideal
namespace Go.Ideal
variable {P:Program}
variable{β:aJ}
def gY.filter(p:Nat->Bool){l l':ae MapEntry}(he:gY β l l'):gY β (l.filter λe=>p e.born) (l'.filter λe=>p e.born):=by
 induction he with
 |nil=>exact .nil
 | @cons e e' l l' hk hf hb hv hl ih=>
   simp only[Dz,hb];split
   .exact .cons hk hf hb hv ih
   .exact ih
variable{l l':ae MapEntry}
def gY.mem(he:gY β l l'){e':MapEntry}(hm:e'∈l'):∃e∈l,e'.key=e.key/\dG e.key=true/\e'.born=e.born/\VR β e.val e'.val:=by
 induction he with
 |nil=>simp at hm
 | @cons e e1 l l' hk hf hb hv hl ih=>
   rcases bH.1 hm with rfl|hm
   .exact⟨e,s7,hk,hf,hb,hv⟩
   .obtain⟨x,hx,h⟩:=ih hm;exact⟨x,by simp[hx],h⟩
def gY.append{r r':ae MapEntry}(he:gY β l l')(h2:gY β r r'):gY β (l++r) (l'++r'):=by
 induction he with
 |nil=>exact h2
 |cons hk hf hb hv hl ih=>exact .cons hk hf hb hv ih
def gY.all(p:Nat->Bool){l l':ae MapEntry}(he:gY β l l'):(l'.all λe=>p e.born)=l.all λe=>p e.born:=by
 induction he with
 |nil=>rfl
 |cons hk hf hb hv hl ih=>simp only[Pb,hb,ih]
def gY.isEmpty(he:gY β l l'):l'.isEmpty=l.isEmpty:=by cases he<;>rfl
def afK(n:Nat)(hn:0<n)(w:World):∃k w1,(choose (.mapNext n)).run P w=.ok k w1/\k<n/\w1.heap=w.heap/\w1.os=w.os/\w1.tape=w.tape/\w1.output=w.output/\w.drawn<=w1.drawn:=by
 rw[run_choose];by_cases h:n<=1
 .exact⟨0,w,by simp[Question.forced,h],hn,rfl,rfl,rfl,rfl,aZ _⟩
 .exact⟨(Question.mapNext n).cut (w.tape w.drawn (.mapNext n)),{w with drawn:=w.drawn+1},by rw[if_neg (by simp[Question.forced];omega)],wu _ hn,rfl,rfl,rfl,rfl,Dw _⟩
variable{h:IH}
def afL{w:World}{v v':ah}{alts:ae (ah×IH)}(ha:DX v h=some alts)(hv:VR β v v')(hW:WR P β h w)(ty:aD):
 ∃vh∈alts,∃r' w',(Instr.next v' false ty).run P w=.ok r' w'/\VR β vh.1 r'/\WR P β vh.2 w'/\Eff β h w β vh.2 w':=by
 unfold DX at ha;split at ha
 .rename_i r;obtain⟨g,hb,hv'⟩:=hv.xZ;split at ha
  .rename_i since seen last hg;simp only[aN]at ha;subst ha;obtain⟨m',seen',o1,o2,o3,o4⟩:=hW.obj r g _ hb hg;rw[o4]at hv';have hm':m'=none:=by cases o3;rfl
   subst hm';refine⟨_,bA.2 rfl,.tuple #[.bool false],w,?_,.tuple (.cons (.bool _) .nil),hW,Eff.refl _ _ _ hW.dom⟩;subst hv';simp only[Instr.next,xL,dM,Aw o1 s7,dR,fG]
  .rename_i m since seen last hg;split at ha
   .rename_i es clock hgm;obtain⟨m',seen',o1,o2,o3,o4⟩:=hW.obj r g _ hb hg;rw[o4]at hv';obtain⟨gm,FP,hm'⟩:∃gm,β m=some gm/\m'=some gm.b:=by
     exact qk
    subst hm' hv';obtain⟨es',p1,p2⟩:=hW.obj m gm _ FP hgm;cases hc:(!seen.isEmpty&&!es.isEmpty&&es.all (λe=>Nat.ble last e.born))with
    |true=>rw[hc]at ha;cases ha
    |false=>
    rw[hc]at ha;simp only[cond_false,aN]at ha;let left:=es.filter λe=>!seen.contains e.born
    let left':=es'.filter λe=>!seen'.contains e.born
    have hcont:∀n,seen'.contains n=seen.contains n:=λn=>by rw[<- o2];simp
    have hleft:gY β left left'.toList:=by
     have:=p2.filter (λn=>!seen.contains n);have h2:left'.toList=es'.toList.filter λe=>!seen.contains e.born:=by
      show(es'.filter λe=>!seen'.contains e.born).toList=_;rw[Array.toList_filter];simp only[hcont]
     rw[h2];exact this
    have hold:gY β (left.filter λe=>Nat.blt e.born since) (left'.filter (·.born<since)).toList:=by
     have:=hleft.filter (λn=>Nat.blt n since);rw[Array.toList_filter];have h2:(left'.toList.filter λe=>decide (e.born<since))=left'.toList.filter λe=>Nat.blt e.born since:=by
      congr 1;funext e;rw[Dx];simp[wy]
     rw[h2];exact this
    have hnew:gY β (left.filter λe=>Nat.ble since e.born) (left'.filter (·.born>=since)).toList:=by
     have:=hleft.filter (λn=>Nat.ble since n);rw[Array.toList_filter];have h2:(left'.toList.filter λe=>decide (e.born>=since))=left'.toList.filter λe=>Nat.ble since e.born:=by
      congr 1;funext e;rw[Dx];simp[uY]
     rw[h2];exact this
    let old:=left.filter λe=>Nat.blt e.born since
    let new:=left.filter λe=>Nat.ble since e.born
    let old':=left'.filter (·.born<since)
    let new':=left'.filter (·.born>=since)
    let AA:=(if old'.isEmpty then #[none]else #[])++(old'++new').map some
    have hold':gY β old old'.toList:=hold;have afM:gY β new new'.toList:=hnew;have hoe:old'.isEmpty=old.isEmpty:=by
     have:=hold'.isEmpty;rw[<- this];cases old' with|mk l=>cases l<;>rfl
    have hpos:0<AA.size:=by
     show 0<((if old'.isEmpty then #[none]else #[])++(old'++new').map some:Array (ak MapEntry)).size;cases he:old'.isEmpty with
     |true=>simp;omega
     |false=>
      have:0<old'.size:=by
       rcases KI old'.size with h0|h0
       .have:old'= #[]:=adM h0;rw[this]at he;simp at he
       .exact h0
      simp;omega
    obtain⟨k,w1,k1,k2,k3,k4,k5,k6,k7⟩:=afK (P:=P) AA.size hpos w;have hW1:WR P β h w1:=hW.qK k3;have hE1:Eff β h w β h w1:=Eff.qK hW.dom k3 k4 k5 k6 k7;have hguard:(!seen'.isEmpty&&!es'.isEmpty&&es'.all (·.born>=last))=false:=by
     rw[<- hc];have e1:seen'.isEmpty=seen.isEmpty:=by rw[<- o2];cases seen' with|mk l=>cases l<;>rfl
     have e2:es'.isEmpty=es.isEmpty:=by rw[<- p2.isEmpty];cases es' with|mk l=>cases l<;>rfl
     have e3:es'.all (·.born>=last)=es.all (λe=>Nat.ble last e.born):=by
      rw[<- p2.all (λn=>Nat.ble last n),<- Array.all_toList];congr 1;funext e;rw[Dx];simp[uY]
     rw[e1,e2,e3]
    have hck:AA[k]? =some AA[k]:=by simp[k2]
    have hrun:∀(x:ak MapEntry),AA[k]? =some x->(Instr.next (.pointer (some ⟨g.b,0,none⟩)) false ty).run P w=
     (match x with
     |some e=>do setObj g.b (.mapIter (some gm.b) since (seen'.push e.born) clock);pure (.tuple #[.bool true,e.key,e.val])
     |none=>pure (.tuple #[.bool false]):Sem ah).run P w1:=λx hx=>by
     simp only[Instr.next,dM,Aw o1 s7,Aw p1 s7,dR,hguard,ww,if_false];have k1':=k1;simp only[AA,old',new',left']at k1' hx;simp only[dM,fG,dR,k1',hx];cases x<;>rfl
    have hmem:AA[k]∈AA.toList:=s7
    cases hx:AA[k]with
    |none=>
     rw[hx]at hmem hck;have hemp:old.isEmpty=true:=by
      rw[<- hoe];cases he:old'.isEmpty with
      |true=>rfl
      |false=>
       exfalso
       have:none∈((if old'.isEmpty then #[none]else #[])++(old'++new').map some:Array (ak MapEntry)).toList:=hmem;rw[he]at this;simp at this
     refine⟨(.tuple #[.bool false],h),?_,.tuple #[.bool false],w1,by rw[hrun none hck];rfl,.tuple (.cons (.bool _) .nil),hW1,hE1⟩;rw[<- ha];refine jl _ ?_;have:(left.filter λe=>Nat.blt e.born since).isEmpty=true:=hemp;rw[if_pos this];simp
    |some e'=>
     rw[hx]at hmem hck;have afN:e'∈old'.toList++new'.toList:=by
      have:some e'∈((if old'.isEmpty then #[none]else #[])++(old'++new').map some:Array (ak MapEntry)).toList:=hmem;simp only[Array.toList_append,Pe,fq,bS,aN,exists_eq_right]at this;rcases this with h1|h1
      .exfalso;split at h1<;>simp at h1
      .simpa using h1
     obtain⟨e,he,q1,q2,q3,q4⟩:=(hold'.append afM).mem afN;have hlt:g.b<w1.heap.size:=by
      rw[k3];exact oS
     have o1':w1.heap[g.b]? =some (.mapIter (some gm.b) since seen' last):=by rw[k3];exact o1
     obtain⟨z1,z2,z3⟩:=IJ (w:=w1) (o:=.mapIter (some gm.b) since (seen'.push e'.born) clock) hlt;obtain⟨y1,y2⟩:=hW1.write hb hg (.mapIter (some m) since (seen++[e.born]) clock) z1 z2 rfl rfl rfl (aZ _)
      ⟨some gm.b,seen'.push e'.born,z3,by rw[Array.toList_push,o2,q3],o3,o4⟩
     refine⟨(.tuple #[.bool true,e.key,e.val],h.set r (.mapIter (some m) since (seen++[e.born]) clock)),?_,.tuple #[.bool true,e'.key,e'.val],_,?_,?_,y1,hE1.trans y2⟩
     .rw[<- ha];refine nD _ (bS.2 ⟨e,he,rfl⟩)
     .rw[hrun (some e') hck];simp only[dM,Qc o1' s7,dR,fG]
     .refine .tuple (.cons (.bool _) (.cons ?_ (.cons q4 .nil)));rw[q1];exact VR.free q2
   .cases ha
  .cases ha
 .cases ha
def afP{ds:ae Tmp}{a:bi}{K:KO}{s:bN}{l:ae bN}(hw:a.wants s.s.guard=some true)(x:ay)(hop:s.s.op=.Ak x)(hre:s.re=[])(alts:ae (ah×IH))(ha:DX (a.eval x) h=some alts)
 (ih:∀vh∈alts,qx P ds l (a.put s.s.dst vh.1) vh.2 K):qx P ds (s::l) a h K:=by
 intro ops bR hv rest done S hp hds β0 h0 w0 kW jX cs0 β w b tm df k cs ρ hG hdom hcx hI hR hcs hro;cases rest with
 |nil=>cases hp.1
 |cons i rest=>
  have lD:=FV hp wl;obtain⟨o,S',β',w',tm',ρ',ho,iC,hdst,t1,t0,t2,r4,hstep,og,hpre,hwant,hG',vF,hrr⟩:=come hp lD hG hdom hI hR b k cs;rw[hop]at iC;have h1:=afy iC;have hxv:=vF x (by rw[h1];simp[Op.operands]);obtain⟨vh,hm,r',w2,n1,n2,n3,n4⟩:=afL ha hxv t2.wr o.type;have hr:(execOp (Act.eval ⟨tm',df⟩) o).run P w'=.ok (.value r') w2:=by
   obtain⟨dst,op,type,pos,after,guard⟩:=o;simp only at h1;subst h1;exact Au n1
  have hs:=Lt (P:=P) (b:=b) (k:=k) (cs:=cs) (rest:=ρ') ho (hwant _ hw) (.inr xp) hr (.inl rfl);have hI2:=t2.sync hstep ho hpre n4 n3 n2 (a2:=a.put s.s.dst vh.1) (λt=>by rw[hdst]) (sK _ _ _) (df2:=df) xo
   (.inr λj hj hjs t ht hrd hwt=>by have:=hrr j hj hjs t ht hrd;rw[hre]at this;cases this)
  exact .of_steps (t1.trans (.one hs)) (ih vh hm ops bR hv rest (i::done) (i::S') og hds β0 h0 w0 kW jX cs0 β' w2 b _ df k cs ρ' hG hdom hcx hI2 r4 (by rw[yg];exact hcs.mono t0) us)
