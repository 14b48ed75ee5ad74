/- Part. -/
import Derived.Test.YtignbinlipkmfaaGreatDoorIdealAG
import Derived.Laws.BytesString
import Derived.Recover
import Derived.RangeFuncRecord
set_option linter.all false
namespace Go.Ideal
variable {P:Program} {β:aD} {h:IH} {w:World}
def adg(v:ah)(l:ae ah):BL (v::l)=match v,BL l with
 | .int .u8 k,some r=>some (UInt8.ofNat k.toNat::r)
 |_,_=>none:=rfl
def adh{cs:ae ah}{bs:ae UInt8}(h:BL cs=some bs):∃ns:ae Int,cs=ns.map (Value.int .u8)/\bs=ns.map λn=>UInt8.ofNat n.toNat:=by
 induction cs generalizing bs with
 |nil=>change some []=some bs at h;simp only[aI]at h;exact⟨[],rfl,by rw[<- h];rfl⟩
 |cons v l ih=>
  rw[adg]at h;split at h
  .rename_i k r hr;simp only[aI]at h;obtain⟨ns,h1,h2⟩:=ih hr;exact⟨k::ns,by simp[h1],by simp[<- h,h2]⟩
  .cases h
def adi(ns:ae Int):∀(r:ByteArray),ns.foldl (λr n=>r.push (UInt8.ofNat n.toNat)) r=⟨r.data++(ns.map λn=>UInt8.ofNat n.toNat).toArray⟩:=by
 induction ns with
 |nil=>intro r;simp
 |cons n ns ih=>intro r;simp only[p9];rw[ih];simp[ByteArray.push]
def adj{ns:ae Int}{l':ae ah}(h:aQ β (ns.map (Value.int .u8)) l'):l'=ns.map (Value.int .u8):=by
 induction ns generalizing l' with
 |nil=>cases h;rfl
 |cons n ns ih=>cases h with|cons hv hl=>rw[hv.mq,ih hl];rfl
section
variable {dst:aj Tmp} {type:aB} {pos:String} {after:Array Edge} {guard:aj (Nat×Bool)} {c:aF} {ρ ρ':ak->ah} {v:ah} {h':IH}
variable{x:ak}
def adk{s d:aB}(hc:cop P ⟨dst,.convert s d x,type,pos,after,guard⟩=some c)(hr:c.run P ρ h=some (v,h'))(hx:VR β (ρ x) (ρ' x))(hW:WR P β h w):
 Good P β h w (execOp ρ' ⟨dst,.convert s d x,type,pos,after,guard⟩) v h':=by
 have adl:∀y,c=.conv s d y->y=x->Good P β h w (execOp ρ' ⟨dst,.convert s d x,type,pos,after,guard⟩) v h':=by
  rintro y rfl rfl;simp only[aF.run]at hr;cases hf:bR (ρ y)with
  |false=>rw[hf]at hr;cases hr
  |true=>
   exact c9
 simp only[cop]at hc;split at hc
 .cases hc
 .rename_i e hs hd;split at hc
  .rename_i he;cases hc;simp only[aF.run]at hr;split at hr
   .rename_i n k ha;simp only[aI,cB]at hr;obtain⟨rfl,rfl⟩:=hr;rw[ha]at hx;have hx':ρ' x=.slice none n k:=by generalize ρ' x=y at hx;cases hx;rfl
    refine Good.same hW (v':=.string .empty) ?_ (.string _);have:=run_convert_bytes_string (P:=P) w s d e none n k hs he hd;simp only[execOp,hx',dm,this];simp[Conv.bytesToString]
   .rename_i i o f n k ha;split at hr
    .rename_i cs hcs;split at hr
     .rename_i bs hbs;simp only[aI,cB]at hr;obtain⟨rfl,rfl⟩:=hr;rw[ha]at hx;obtain⟨g,a,c',hg,hx',ha1,ha2,hn,hcc,hoff,_⟩:=hx.mD;obtain⟨cs0,q1,q2⟩:=DN hcs;obtain⟨m1,m2,l',m3,m4⟩:=Jf hW hg q1 q2;obtain⟨ns,n1,n2⟩:=adh hbs;subst n1;have hl':=adj m3;subst hl';have hload:(loadCells a n).run P w=.ok (ns.map (Value.int .u8)).toArray w:=by
       rcases hoff with h0|⟨h0,ha2⟩
       .have hn0:n=0:=by omega
        subst hn0;have:ns=[]:=by
         cases ns with
         |nil=>rfl
         |cons x l=>simp at m1
        subst this;simp[loadCells,loadCellsFrom]
       .obtain⟨ab,ao,as⟩:=a;simp only at ha1 ha2 h0;subst ha1 ha2 h0;have:=NA (P:=P) (w:=w) (b:=g.b) (o:=g.off+o) m1 m4;simpa using this
      refine Good.same hW (v':=.string ⟨⟨bs⟩⟩) ?_ (.string _);simp only[execOp,hx',dm,run_convert_bytes_string (P:=P) w s d e (some a) n c' hs he hd,run_bytesToString w a n c' ns hload,dB,ed,adi,n2];have he0:ByteArray.empty.data= #[]:=rfl;rw[he0];simp
     .cases hr
    .cases hr
   .cases hr
  .cases hc
 .cases hc
 .simp only[aI]at hc;exact adl x hc.symm rfl
 .cases hc
def adm{t:aB}{y:ak}(hc:cop P ⟨dst,.index t x y,type,pos,after,guard⟩=some c)(hr:c.run P ρ h=some (v,h'))(hx:VR β (ρ x) (ρ' x))(hy:VR β (ρ y) (ρ' y))(hW:WR P β h w):
 Good P β h w (execOp ρ' ⟨dst,.index t x y,type,pos,after,guard⟩) v h':=by
 simp only[cop]at hc;split at hc
 .rename_i n e hu;split at hc
  .rename_i s d hs hd;cases hc;obtain⟨hs1,hs2⟩:=uy hs;simp only[aF.run]at hr;split at hr
   .rename_i cs k i ha hi;rw[ha]at hx;rw[hi]at hy;obtain⟨cs',h1,h2,hx'⟩:=hx.NB;have hy':=hy.mq;cases hb:Nat.blt i n with
    |false=>rw[hb]at hr;cases hr
    |true=>
     rw[hb]at hr;simp only[cond_true]at hr;have hlt:i<n:=r7
     have hr':h'=h/\(match kv P e with
      |true=>match jh (jU cs (i*s)) s with
       |some l=>some (.agg ⟨l⟩:ah)
       |none=>none
      |false=>ko cs (i*s))=some v:=by
      cases hagg:kv P e with
      |true=>
       rw[hagg]at hr;simp only at hr⊢;split at hr
       .rename_i l hl;have hl:jh (jU cs (i*s)) s=some l:=hl;rw[hl];exact fk
       .cases hr
      |false=>
       rw[hagg]at hr;simp only at hr⊢;split at hr
       .rename_i l hl;have hl:ko cs (i*s)=some l:=hl;rw[hl];exact fk
       .cases hr
     obtain⟨rfl,hr2⟩:=hr';obtain⟨v',p1,p2⟩:=TN hd hs1 h1 h2 hr2 w;refine Good.same hW (v':=v') ?_ p2;simp only[execOp,Instr.index,dm,fE hu,dB,hx',hy',asIntOf,ed,nJ hs1];rw[if_pos ⟨qe,qu⟩];simp[nJ hs1,p1]
   .cases hr
  .cases hc
 .rename_i hu;cases hc;simp only[aF.run]at hr;split at hr
  .rename_i s k i ha hi;rw[ha]at hx;rw[hi]at hy;have hx':=hx.Ae;have hy':=hy.mq;split at hr
   .rename_i b hb;simp only[aI,cB]at hr;obtain⟨rfl,rfl⟩:=hr;rw[rP]at hb;refine Good.same hW (v':=.int .u8 b.toNat) ?_ (.int _ _);have hlt:i<s.size:=by
     have:=(aT.1 hb).1;exact this
    have hb2:s[i]? =some b:=by
     rw[getElem?_pos s i hlt];exact congrArg some (aT.1 hb).2
    simp only[execOp,Instr.index,dm,fE hu,dB,hx',hy',asIntOf,ed];have h0:(0:Int)<=Int.ofNat i:=qe
    rw[if_pos h0];simp only[Int.ofNat_eq_natCast,ic,hb2];rfl
   .cases hr
  .cases hr
 .cases hc
def Ai(b:Builtin)(args:Array ak)(ats:Array aB)(ρ:ak->ah):
 execOp ρ ⟨dst,.call {callee:=.builtin b,args,argTypes:=ats},type,pos,after,guard⟩=builtin b ats type (args.map λ| .const _=>true|_=>false) (args.map ρ):=rfl
variable{args:Array ak}{ats:Array aB}
def adn(ha:args.toList=[x])(hc:cop P ⟨dst,.call {callee:=.builtin .len,args,argTypes:=ats},type,pos,after,guard⟩=some c)
 (hr:c.run P ρ h=some (v,h')) (hx:VR β (ρ x) (ρ' x)) (hW:WR P β h w):
 Good P β h w (execOp ρ' ⟨dst,.call {callee:=.builtin .len,args,argTypes:=ats},type,pos,after,guard⟩) v h':=by
 obtain rfl:args= #[x]:=s5
 rw[Ai];simp only[cop]at hc;split at hc
 .rename_i t ht;have hm:(#[x].map ρ')= #[ρ' x]:=by simp
  rw[hm];split at hc
  .rename_i hu;cases hc;simp only[aF.run]at hr;split at hr
   .rename_i s hs;simp only[aI,cB]at hr;obtain⟨rfl,rfl⟩:=hr;rw[hs]at hx;refine Good.same hW (v':=goInt s.size) ?_ (.int _ _);simp[builtin,Builtin.len_,ht,hx.Ae,fE hu]
   .cases hr
  .rename_i n e hu;cases hc;simp only[aF.run,aI,cB]at hr;obtain⟨rfl,rfl⟩:=hr;refine Good.same hW (v':=goInt n) ?_ (.int _ _);simp[builtin,Builtin.len_,ht,fE hu]
  .rename_i p hu;split at hc
   .rename_i n e hu2;cases hc;simp only[aF.run,aI,cB]at hr;obtain⟨rfl,rfl⟩:=hr;refine Good.same hW (v':=goInt n) ?_ (.int _ _);simp[builtin,Builtin.len_,ht,fE hu,fE hu2]
   .cases hc
  .rename_i e hu;cases hc;simp only[aF.run]at hr;split at hr
   .rename_i a n k hs;simp only[aI,cB]at hr;obtain⟨rfl,rfl⟩:=hr;rw[hs]at hx;have hx':∃a' k',ρ' x=.slice a' n k':=by generalize ρ' x=y at hx;cases hx<;>exact⟨_,_,rfl⟩
    obtain⟨a',k',hx'⟩:=hx';refine Good.same hW (v':=goInt n) ?_ (.int _ _);simp[builtin,Builtin.len_,ht,hx',fE hu]
   .cases hr
  .rename_i kt et hu;cases hc;simp only[aF.run]at hr;split at hr
   .rename_i es hes;simp only[aI,cB]at hr;obtain⟨rfl,rfl⟩:=hr;refine Good.same hW (v':=goInt (iI es)) ?_ (.int _ _);rcases TQ hW hx hes with⟨_,h2,h3⟩|⟨i,g,es',clock,clock',_,_,_,h4,h5,_,h6⟩
    .subst h3;simp[builtin,Builtin.len_,ht,h2,fE hu];rfl
    .have hsz:es'.size=iI es:=by rw[vO,<- Sy];exact h6.length
     simp[builtin,Builtin.len_,ht,h4,fE hu,yI h5,hsz]
   .cases hr
  .cases hc
 .cases hc
def ado(ha:args.toList=[x])(hc:cop P ⟨dst,.call {callee:=.builtin .cap,args,argTypes:=ats},type,pos,after,guard⟩=some c)
 (hr:c.run P ρ h=some (v,h')) (hx:VR β (ρ x) (ρ' x)) (hW:WR P β h w):
 Good P β h w (execOp ρ' ⟨dst,.call {callee:=.builtin .cap,args,argTypes:=ats},type,pos,after,guard⟩) v h':=by
 obtain rfl:args= #[x]:=s5
 rw[Ai];simp only[cop]at hc;split at hc
 .rename_i t ht;have hm:(#[x].map ρ')= #[ρ' x]:=by simp
  rw[hm];split at hc
  .rename_i e hu;cases hc;simp only[aF.run]at hr;split at hr
   .rename_i n k hs;simp only[aI,cB]at hr;obtain⟨rfl,rfl⟩:=hr;rw[hs]at hx;have hx':ρ' x=.slice none n k:=by generalize ρ' x=y at hx;cases hx;rfl
    refine Good.same hW (v':=goInt k) ?_ (.int _ _);simp[builtin,Builtin.cap_,ht,hx',fE hu]
   .rename_i i o n k hs;simp only[aI,cB]at hr;obtain⟨rfl,rfl⟩:=hr;rw[hs]at hx;obtain⟨g,a,c',hg,hx',_,_,_,_,_,hk⟩:=hx.mD;have hck:c'=k:=by
     rcases hk with hk|hk
     .exact hk.2
     .have:=hk.1;simp at this;omega
    subst hck;refine Good.same hW (v':=goInt c') ?_ (.int _ _);simp[builtin,Builtin.cap_,ht,hx',fE hu]
   .cases hr
  .cases hc
 .cases hc
def TV{mx:Bool}{xs ys:ae ah}{v:ah}{h':IH}{args:ae ak}(hl:lq ρ args=xs)(hr:(aF.BH mx args).run P ρ h=some (v,h'))(hxs:aQ β xs ys)(hW:WR P β h w):
 h'=h/\VR β v v/\(cond mx (Builtin.max_ #[] 0 ⟨ys⟩) (Builtin.min_ #[] 0 ⟨ys⟩)).run P w=.ok v w:=by
 simp only[aF.run,hl]at hr;split at hr
 .rename_i j a k b;cases hk:qD j k with
  |false=>rw[hk]at hr;cases hr
  |true=>
   have:=TK hk;subst this;rw[hk]at hr;simp only[cond_true,aI,cB]at hr;obtain⟨rfl,rfl⟩:=hr;refine⟨rfl,.int _ _,?_⟩;cases hxs with
   |cons h1 h2=>cases h2 with
    |cons h2 h3=>
     cases h3;rw[h1.mq,h2.mq];cases mx
     .simp only[cond_false,Builtin.min_,List.foldlM_cons,List.foldlM_nil,Builtin.min2,uz];simp only[dm,ed,dB,pure_bind,bind_pure];congr 2;by_cases hab:a<=b
      .rw[if_neg p0];simp[hab]
      .rw[if_pos p0];simp[hab]
     .simp only[cond_true,Builtin.max_,List.foldlM_cons,List.foldlM_nil,Builtin.max2,uz];simp only[dm,ed,dB,pure_bind,bind_pure];congr 2;by_cases hab:b<=a
      .rw[if_neg p0];simp[hab]
      .rw[if_pos p0];simp[hab]
 .cases hf:gD xs with
  |false=>rw[hf]at hr;cases hr
  |true=>
   rw[hf]at hr;simp only[cond_true]at hr;split at hr
   .rename_i u hu;simp only[aI,cB]at hr;obtain⟨rfl,rfl⟩:=hr;obtain⟨h1,h2⟩:=F5 hu;rw[hxs.pF hf];exact⟨rfl,VR.free h2,Ad h1 w⟩
   .cases hr
def TW{b:Builtin}(hb:b=.min\/b=.max)(hc:cop P ⟨dst,.call {callee:=.builtin b,args,argTypes:=ats},type,pos,after,guard⟩=some c)
 (hr:c.run P ρ h=some (v,h')) (hx:∀x∈args.toList,VR β (ρ x) (ρ' x)) (hW:WR P β h w):
 Good P β h w (execOp ρ' ⟨dst,.call {callee:=.builtin b,args,argTypes:=ats},type,pos,after,guard⟩) v h':=by
 rw[Ai];have hxs:aQ β (lq ρ args.toList) (args.toList.map ρ'):=aQ.of_map hx;have hargs:args.map ρ'=⟨args.toList.map ρ'⟩:=by apply Array.ext';rw[M6]
 rw[hargs];rcases hb with rfl|rfl
 .have:c=.BH false args.toList:=by
   simp only[cop]at hc;exact mc
  subst this;obtain⟨rfl,m2,m3⟩:=TV rfl hr hxs hW;refine Good.same hW (v':=v) ?_ m2;have m3:(Builtin.min_ ats type ⟨args.toList.map ρ'⟩).run P w=.ok v w:=m3;simp only[builtin,dm,m3,dB,ed]
 .have:c=.BH true args.toList:=by
   simp only[cop]at hc;exact mc
  subst this;obtain⟨rfl,m2,m3⟩:=TV rfl hr hxs hW;refine Good.same hW (v':=v) ?_ m2;have m3:(Builtin.max_ ats type ⟨args.toList.map ρ'⟩).run P w=.ok v w:=m3;simp only[builtin,dm,m3,dB,ed]
end
end Go.Ideal
namespace Go.Ideal
variable {P:Program} {β:aD} {h:IH} {w:World}
variable{size n:Nat}{xs:ae ah}
def Jl{m:Nat}{x x':ah}(hf:nG size n x h=some xs)(hl:oD x=some m)(hnm:n<=m)(hx:VR β x x')(hW:WR P β h w):
 ∃xs',aQ β xs xs'/\xs.all cellV=true/\xs.length=n*size/\(∀w1,(Builtin.lenOf x').run P w1=.ok m w1)/\∀w1:World,w1.heap=w.heap->(Builtin.firstCells size n x').run P w1=.ok ⟨xs'⟩ w1:=by
 unfold nG at hf;split at hf
 .rename_i i o f len cap;simp only[oD,aI]at hl;subst hl;obtain⟨g,a,c',hg,rfl,ha1,ha2,hn,hcc,hoff,_⟩:=hx.mD;obtain⟨cs0,q1,q2⟩:=DN hf;obtain⟨m1,m2,l',m3,m4⟩:=Jf hW hg q1 q2;refine⟨l',m3,m2,m1,λw1=>rfl,λw1 hw1=>?_⟩;have hll:l'.length=n*size:=m3.length.trans m1;rcases hoff with h0|⟨h0,ha2⟩
  .have hn0:n=0:=by omega
   subst hn0;have:l'=[]:=by
    cases l' with
    |nil=>rfl
    |cons x l=>simp at hll
   subst this;simp[Builtin.firstCells,loadCells,loadCellsFrom]
  .obtain⟨ab,ao,as⟩:=a;simp only at ha1 ha2 h0;subst ha1 ha2 h0;exact run_firstCells_some w1 size n _ _ _ l' hll λj v hj=>by
    rw[addr_add,<- m4 j v hj];simp only[World.cell?,hw1]
 .rename_i len cap;simp only[oD,aI]at hl;subst hl;have hx':x'=.slice none len cap:=by cases hx;rfl
  rw[hx'];clear hx hx';split at hf
  .simp only[aI]at hf;subst hf;exact⟨[],.nil,rfl,qe,λ_=>rfl,λw1 _=>by simp[Builtin.firstCells]⟩
  .cases hf
 .rename_i s;simp only[oD,aI]at hl;subst hl;obtain rfl:=hx.Ae;cases hsz:Nat.beq size 1 with
  |false=>rw[hsz]at hf;cases hf
  |true=>
  have hsz1:size=1:=rq hsz;subst hsz1;rw[hsz]at hf;simp only[cond_true]at hf;rw[pE]at hf;split at hf
  .rename_i l hl;split at hl
   .rename_i hle;simp only[aI]at hf hl;subst hf hl;have hfree:gD (lq (λb:UInt8=>Value.int .u8 b.toNat) (s.data.toList.take n))=true:=by
     rw[vN];generalize s.data.toList.take n=l;induction l with
     |nil=>rfl
     |cons b l ih=>simp[gD,bR,cellV,ih]
    refine⟨_,aQ.free hfree,vP hfree,?_,λ_=>rfl,λw1 _=>?_⟩
    .rw[vN];simp at hle⊢;omega
    .rw[vN];simp only[Builtin.firstCells,ed];congr 1;apply Array.ext';simp[ByteArray.data_extract,Sw]
   .cases hl
  .cases hf
 .cases hf
def NQ(b:Nat)(o:Nat)(vs:ae ah):(w.setCells b o vs).heap.size=w.heap.size/\(∀x,x≠b->(w.setCells b o vs).heap[x]? =w.heap[x]?)/\
 ((∃c t fz,w.heap[b]? =some (.cells c t fz)/\¬(fz.1<=c.size/\c.size<fz.2))->∃c t fz,(w.setCells b o vs).heap[b]? =some (.cells c t fz)/\¬(fz.1<=c.size/\c.size<fz.2))/\(w.setCells b o vs).tape=w.tape/\(w.setCells b o vs).os=w.os/\(w.setCells b o vs).output=w.output:=by
 refine⟨?_,?_,?_,?_,?_,?_⟩
 .induction vs generalizing o w with
  |nil=>rfl
  |cons v vs ih=>show((w.setCell ⟨b,o,none⟩ v).setCells b (o+1) vs).heap.size=_;rw[ih];simp
 .induction vs generalizing o w with
  |nil=>intro x _;rfl
  |cons v vs ih=>intro x hx;show((w.setCell ⟨b,o,none⟩ v).setCells b (o+1) vs).heap[x]? =_;rw[ih _ x hx,Go.RowKit.Below.heap_setCell _ _ _ _ hx]
 .induction vs generalizing o w with
  |nil=>exact id
  |cons v vs ih=>
   rintro⟨c,t,fz,hh,hz⟩;refine ih (w:=w.setCell ⟨b,o,none⟩ v) _ ⟨c.setIfInBounds o v,t,fz,?_,sY⟩;simp[World.setCell,Sr,hh]
 .induction vs generalizing o w with
  |nil=>rfl
  |cons v vs ih=>show((w.setCell ⟨b,o,none⟩ v).setCells b (o+1) vs).tape=_;rw[ih];rfl
 .exact(Su b (may:=λ_=>True) vs o w (λ_ _=>trivial)).1
 .exact(Su b (may:=λ_=>True) vs o w (λ_ _=>trivial)).2.1
variable{ats:Array aB}{ty st xt e:aB}{xd:TypeDesc}
def NR(h0:ats[0]? =some st)(h1:ats[1]? =some xt)(hu:P.underlying st=some (.slice e))(hx:P.underlying xt=some xd)(hni:∀k,xd≠.int k)
 (hs:jE P e=some size) {base:aj Addr} {len cap n:Nat} {x:ah} (hl:∀w,(Builtin.lenOf x).run P w=.ok n w) (hle:len+n<=cap) {xs:ae ah} (hf:(Builtin.firstCells size n x).run P w=.ok ⟨xs⟩ w)
 {w':World} (hst:(match base with|some a=>storeCells (a.add (len*size)) xs|none=>pure ()).run P w=.ok () w'):
 (Builtin.append_ ats ty #[.slice base len cap,x]).run P w=.ok (.slice base (len+n) cap) w':=by
 have hz:(match xd with| .int _=>true|_=>false)=false:=xb
 simp only[Builtin.append_,h0,h1,M8,Bv,ru,dm,fE hu,fE hx,nJ hs,dB,ed,hz,uh,if_false,hl,hle,if_true,M9,hf];cases base with
 |none=>cases hst;rfl
 |some a=>simp only[dm,hst,dB,ed]
def adp{i:TypeInfo}{z:ah}(h0:ats[0]? =some st)(h1:ats[1]? =some xt)(hu:P.underlying st=some (.slice e))(hx:P.underlying xt=some xd)(hni:∀k,xd≠.int k)
 (hs:jE P e=some size) (hi:P.info? e=some i) (hz:i.zero=some z) (hzl:z.cells.size=size) {base:aj Addr} {len cap n:Nat} {x:ah} (hl:∀w,(Builtin.lenOf x).run P w=.ok n w) (hgt:cap<len+n)
 (hb:0<i.bytes) (hfit:(len+n)*i.bytes<=1073741824) {xs olds:ae ah} (hf:∀w1:World,w1.heap=w.heap->(Builtin.firstCells size n x).run P w1=.ok ⟨xs⟩ w1) (hfo:∀w1:World,w1.heap=w.heap->(Builtin.firstCells size len (.slice base len cap)).run P w1=.ok ⟨olds⟩ w1):
 ∃c rest,len+n<=c/\rest.length=(c - (len+n))*size/\
  (Builtin.append_ ats ty #[.slice base len cap,x]).run P w=.ok (.slice (some ⟨w.heap.size,0,none⟩) (len+n) c) {w.drew with heap:=w.heap.push (.cells ⟨olds++xs++rest⟩ e)}:=by
 have hz0:(match xd with| .int _=>true|_=>false)=false:=xb
 have hn:¬(len+n<=cap):=p0
 have hnb:len+n<=(len+n)*i.bytes:=Nat.le_mul_of_pos_right _ hb;have h63':¬(9223372036854775807<((len:Int)+(n:Int))):=p0
 have h48':¬(281474976710656<Builtin.nextslicecap (len+n) cap*i.bytes):=by
  have:=growslice_fits (need:=len+n) (old:=cap) (bytes:=i.bytes) hgt p0;omega
 refine⟨grownCap w (len+n) cap e,(Builtin.zeroCells z.cells (grownCap w (len+n) cap e - (len+n))).toList,?_,?_,?_⟩
 .unfold grownCap Question.cut;exact IL _ _
 .simp[Builtin.zeroCells,hzl]
 .have hf':=hf w.drew rfl;have adq:=hfo w.drew rfl;have hsz:i.size=size:=by simpa[jE,hi]using hs
  simp[Builtin.append_,h0,h1,fE hu,fE hx,sizeOf,typeInfo,zeroValue,hi,hz,hl,hn,h63',h48',Question.forced,hz0,hsz,hf',adq,newRow,grownCap];have:∀Z:Array ah,((⟨olds⟩:Array ah)++((⟨xs⟩:Array ah)++Z))=⟨olds++(xs++Z.toList)⟩:=λZ=>by apply Array.ext';simp
  rw[this];rfl
def adr{bytes:Nat}{s v:ah}{h':IH}(hr:w9 size bytes s n xs h=some (v,h')):∃base len cap,s=.slice base len cap/\(len+n)*bytes<=small/\(len+n)*size<=small/\
 ((len+n<=cap/\((∃i o f,base=some ⟨i,o,f⟩/\h.storeAt i (o+len*size) xs=some h'/\v=.slice (some ⟨i,o,f⟩) (len+n) cap)\/(base=none/\n=0/\h'=h/\v=.slice none (len+n) cap)))\/
   (¬len+n<=cap/\∃old,nG size len s h=some old/\v=.slice (some ⟨h.next,0,some size⟩) (len+n) (len+n)/\
     ((∃i o,base=some ⟨i,o,some size⟩/\0<size/\h'=(h.kill i).new (.cells (kF old xs)))\/((∀i o k,base≠some ⟨i,o,some (k+1)⟩)/\h'=h.new (.cells (kF old xs)))))):=by
 unfold w9 at hr;split at hr
 .rename_i base len cap;simp only at hr;cases hc:(((len.add n).mul bytes).ble small&&((len.add n).mul size).ble small&&(len.add n).ble small)with
  |false=>rw[hc]at hr;cases hr
  |true=>
   rw[hc]at hr;simp only[cond_true]at hr;simp only[dG]at hc;refine⟨base,len,cap,rfl,lg hc.1.1,lg hc.1.2,?_⟩;cases hle:Nat.ble (len.add n) cap with
   |true=>
    rw[hle]at hr;simp only[cond_true]at hr;refine .inl ⟨lg hle,?_⟩;split at hr
    .rename_i i o f;split at hr
     .rename_i h2 hst;simp only[aI,cB]at hr;obtain⟨rfl,rfl⟩:=hr;exact .inl ⟨i,o,f,rfl,hst,rfl⟩
     .cases hr
    .split at hr
     .simp only[aI,cB]at hr;obtain⟨rfl,rfl⟩:=hr;exact .inr ⟨rfl,rfl,rfl,rfl⟩
     .cases hr
   |false=>
    rw[hle]at hr;simp only[cond_false]at hr;refine .inr ⟨λhh=>?_,?_⟩
    .have:Nat.ble (len.add n) cap=true:=II hh;rw[this]at hle;cases hle
    .split at hr
     .cases hr
     .rename_i old hold;refine⟨old,hold,?_⟩;split at hr
      .rename_i i o k;cases hb:Nat.beq (Nat.succ k) size with
       |false=>rw[hb]at hr;cases hr
       |true=>
        have hk:k+1=size:=rq hb;rw[hb]at hr;simp only[cond_true,aI,cB]at hr;obtain⟨rfl,rfl⟩:=hr;have hk2:k.succ=size:=hk;exact⟨rfl,.inl ⟨i,o,by rw[hk2],p0,rfl⟩⟩
      .rename_i hnot;simp only[aI,cB]at hr;obtain⟨rfl,rfl⟩:=hr;exact⟨rfl,.inr ⟨λi o k hh=>hnot i o k hh,rfl⟩⟩
 .cases hr
def NS(hW:WR P β h w){i o d:Nat}{g:iC}{a:Addr}(hg:β i=some g)(ha1:a.block=g.b){vs vs':ae ah}(hoff:vs=[]\/(a.off=g.off+o/\a.spot=none)){h':IH}(hs:h.storeAt i (o+d) vs=some h')(hv:aQ β vs vs')(hall:vs.all cellV=true):
 ∃w',(∀k,k=0->(storeCells (a.add d) vs' k).run P w=.ok () w')/\WR P β h' w'/\Eff β h w β h' w':=by
 obtain⟨m1,m2,m3⟩:=BX hW hg hs hv hall;refine⟨_,λk hk=>?_,m2,m3⟩;subst hk;rcases hoff with h0|⟨h0,ha2⟩
 .subst h0;cases hv;rfl
 .obtain⟨ab,ao,as⟩:=a;simp only at ha1 ha2 h0;subst ha1 ha2 h0;rw[addr_add,kE];exact m1 0 rfl
section
variable {dst:aj Tmp} {type:aB} {pos:String} {after:Array Edge} {guard:aj (Nat×Bool)} {c:aF} {ρ ρ':ak->ah} {v:ah} {h':IH}
variable{size:Nat}
def ads{n:Nat}{x x':ah}{xs:ae ah}(hf:yA size n x h=some xs)(hl:oD x=some n)(hx:VR β x x')(hW:WR P β h w):
 ∃xs',aQ β xs xs'/\xs.all cellV=true/\xs.length=n*size/\(∀w1,(Builtin.lenOf x').run P w1=.ok n w1)/\∀w1:World,w1.heap=w.heap->(Builtin.firstCells size n x').run P w1=.ok ⟨xs'⟩ w1:=by
 cases n with
 |succ k=>exact Jl (n:=k+1) hf hl (bz _) hx hW
 |zero=>
  cases x with
  |slice a m c=>
   have e:xs=[]:=by
    have hf:some ([]:ae ah)=some xs:=hf;injection hf with hf;exact hf.symm
   subst e;have hm:m=0:=by
    simp only[oD,aI]at hl;exact hl
   subst hm;have hx':∃a' c',x'=.slice a' 0 c':=by cases hx<;>exact⟨_,_,rfl⟩
   obtain⟨a',c',rfl⟩:=hx';refine⟨[],.nil,rfl,qe,λw1=>rfl,λw1 _=>?_⟩;cases a' with
   |none=>simp[Builtin.firstCells]
   |some a'=>simp[Builtin.firstCells,loadCells,loadCellsFrom]
  |string b=>exact Jl (size:=size) (n:=0) (m:=0) (x:=.string b) hf hl (bz _) hx hW
  |_=>cases hl
variable{ats:Array aB}{ty st xt e:aB}{i:TypeInfo}{z:ah}
def adt{xd:TypeDesc}(h0:ats[0]? =some st)(h1:ats[1]? =some xt)(hu:P.underlying st=some (.slice e))(hxd:P.underlying xt=some xd)(hni:∀k,xd≠.int k)
 (hs:jE P e=some size) (hsp:0<size) (hi:P.info? e=some i) (hz:i.zero=some z) (hzl:z.cells.size=size) (hb:0<i.bytes) {s s' x x':ah} {n:Nat} {xs:ae ah}
 (hl:oD x=some n) (hf:yA size n x h=some xs) (hr:w9 size i.bytes s n xs h=some (v,h')) (hvs:VR β s s') (DW:VR β x x') (hW:WR P β h w):
 ∃w' β' v',(Builtin.append_ ats ty #[s',x']).run P w=.ok v' w'/\VR β' v v'/\WR P β' h' w'/\Eff β h w β' h' w':=by
 obtain⟨xs',x1,x2,x3,x4,x5⟩:=ads hf hl DW hW;have hxl:xs'.length=n*size:=x1.length.trans x3;obtain⟨base,len,cap,rfl,s1,s2,s3⟩:=adr hr;unfold small at s1 s2;rcases s3 with⟨hle,hin⟩|⟨hgt,old,hold,rfl,hnew⟩
 .
  rcases hin with⟨j,o,f,rfl,hst,rfl⟩|⟨rfl,rfl,rfl,rfl⟩
  .obtain⟨g,a,c',hg,rfl,ha1,ha2,hn,hcc,hoff,hkind⟩:=hvs.mD;have Gc:xs=[]\/(a.off=g.off+o/\a.spot=none):=by
    rcases hoff with hh|hh
    .left;have:n=0:=by omega
     subst this;rw[<- mo,x3];simp
    .exact .inr hh
   obtain⟨w',p1,p2,p3⟩:=NS hW hg ha1 Gc hst x1 x2;refine⟨w',β,_,NR h0 h1 hu hxd hni hs x4 (mh hle hcc) (x5 w rfl) (w':=w') (p1 0 rfl),?_,p2,p3⟩;rcases hkind with⟨rfl,rfl⟩|⟨rfl,k1,k2,k3⟩
   .exact .az hg ha1 hle hoff
   .exact .nU hg ha1 k3.2 hle k1 k2 k3.1 hcc (hoff.imp id (·.1))
  .have hs':s'=.slice none len cap:=by cases hvs;rfl
   subst hs';refine⟨w,β,_,NR h0 h1 hu hxd hni hs x4 hle (x5 w rfl) (w':=w) rfl,.sl0 _ _,hW,Eff.refl _ _ _ hW.dom⟩
 .
  obtain⟨old',o1,o2,o3,_,o5⟩:=Jl hold rfl (bz _) hvs hW;have hol:old'.length=len*size:=o1.length.trans o3;have hfresh:∀(base':aj Addr) (cap':Nat) (h2:IH),s'=.slice base' len cap'->cap'<len+n->h2.next=h.next->WR P β h2 w->Eff β h w β h2 w->h'=h2.new (.cells (kF old xs))->
   ∃w' β' v',(Builtin.append_ ats ty #[s',x']).run P w=.ok v' w'/\VR β' (.slice (some ⟨h.next,0,some size⟩) (len+n) (len+n)) v'/\WR P β' h' w'/\Eff β h w β' h' w':=by
   rintro base' cap' h2 rfl hcap hnext hW2 hE2 rfl;obtain⟨cc,rest,a1,a2,a3⟩:=adp (ty:=ty) h0 h1 hu hxd hni hs hi hz hzl x4 hcap hb p0 x5 o5;have hcap2:(len+n)+(cc - (len+n))=cc:=p0
   have hmul:(len+n)*size+rest.length=cc*size:=by rw[a2,<- qx,hcap2]
   have hlen:(old++xs).length=(len+n)*size:=by rw[dL,o3,x3,qx]
   have hW3:WR P β h2 w.drew:=hW2.nV rfl;have NT:Eff β h2 w β h2 w.drew:=Eff.nV hW2.dom rfl rfl rfl rfl;have hcells:=OR.FY (P:=P) (β:=β.add h2.next ⟨w.heap.size,0,(len+n)*size,cc*size,size⟩) (w:=w.drew) (cs:=old++xs) (cs':=old'++xs') e
    ((o1.append x1).mono (aD.vQ _ hW2.xk)) (by simp[o2,x2]) rest size
   have hcells:OR P (β.add h2.next ⟨w.heap.size,0,(len+n)*size,cc*size,size⟩) ⟨w.heap.size,0,(len+n)*size,cc*size,size⟩ {w.drew with heap:=w.drew.heap.push (.cells ⟨old'++xs'++rest⟩ e)} (.cells (old++xs)):=by
    rw[hlen,hmul]at hcells;exact hcells
   obtain⟨b1,b2⟩:=hW3.alloc (.cells (old++xs)) (.cells ⟨old'++xs'++rest⟩ e) ⟨w.heap.size,0,(len+n)*size,cc*size,size⟩ rfl rfl hcells;refine⟨_,_,_,a3,?_,by rw[jc];exact b1,by rw[jc];exact(hE2.trans NT).trans b2⟩;have hb:=aD.aan β h2.next ⟨w.heap.size,0,(len+n)*size,cc*size,size⟩
   rw[<- hnext];exact VR.nU (g:=⟨w.heap.size,0,(len+n)*size,cc*size,size⟩) hb rfl rfl (bz _) hsp qe qe a1 (.inr rfl)
  rcases hnew with⟨j,o,rfl,_,rfl⟩|⟨TY,rfl⟩
  .obtain⟨g,a,c',hg,rfl,ha1,ha2,hn,hcc,hoff,hkind⟩:=hvs.mD;obtain⟨k0,k1,k2,k3,ha2⟩:g.sz=size/\0<g.sz/\o+cap*g.sz=g.len/\g.off+o+c'*g.sz=g.top/\a.spot=none:=by
    rcases hkind with hk|hk
    .have:=hk.1;simp at this;omega
    .have:=hk.1;simp at this;exact⟨this.symm,hk.2.1,hk.2.2.1,hk.2.2.2⟩
   obtain⟨cs0,hcs⟩:∃cs,h.get j=some (.cells cs):=by
    unfold nG at hold;obtain⟨cs,q|q,_⟩:=DN hold
    .exact⟨cs,q⟩
    .have:=(hW.obj j g _ hg q).2.1;omega
   have hlive:h.get j≠none:=by rw[hcs];simp
   by_cases hfit:len+n<=c'
   .
    have hof:a=⟨g.b,g.off+o,none⟩:=by
     have:a.off=g.off+o:=by rcases hoff with hh|hh<;>omega
     obtain⟨ab,ao,as⟩:=a;simp only at ha1 ha2 this;rw[ha1,ha2,this]
    subst hof;obtain⟨q1,q2,q3,q5,q6,q7⟩:=hW.obj j g _ hg hcs;rw[k0]at k1 k2 k3;have hmul:len*size+n*size=(len+n)*size:=(qx _ _ _).symm;have aq6:(len+n)*size<=c'*size:=Nat.mul_le_mul_right _ hfit;have hin:∀j,j<xs'.length->g.off+o+len*size+j<g.top:=λj hj=>by omega
    have hone:∀v∈xs',v.oneCell'=true:=λv hv'=>by
     obtain⟨j,hj⟩:=ik hv';have hjl:j<xs.length:=by
      rcases sM j xs'.length with hh|hh
      .omega
      .rw[dY hh]at hj;cases hj
     obtain⟨v2,hv2,hr⟩:=x1.get (bH hjl);rw[hv2]at hj;cases hj;have hc:=(iE.1 x2) _ (wR hjl);obtain⟨a,b⟩:=hr.cellV hc;cases v<;>first|rfl|exact absurd rfl (a _)|exact absurd rfl (b _)
    have hrun:(storeCells ((⟨g.b,g.off+o,none⟩:Addr).add (len*size)) xs').run P w=.ok () (w.setCells g.b (g.off+o+len*size) xs'):=by
     rw[addr_add];have:=run_storeCells_cells (P:=P) g.b (g.off+o+len*size) xs' 0 w (λj hj=>(q5 _ (hin j hj)).1) (λj hj=>(q5 _ (hin j hj)).2) hone;simpa using this
    obtain⟨hsz,hother,hsame,BV,hos,hout⟩:=NQ (w:=w) g.b (g.off+o+len*size) xs';refine⟨_,β.add h.next ⟨g.b,g.off+o,(len+n)*size,g.top,size⟩,_,NR h0 h1 hu hxd hni hs x4 hfit (x5 w rfl) hrun,?_,?_⟩
    .refine VR.nU (g:=⟨g.b,g.off+o,(len+n)*size,g.top,size⟩) (aD.aan _ _ _) rfl rfl (bz _) hsp qe qu hfit (.inr rfl)
    .rw[jc];have hdr:w.drawn<=(w.setCells g.b (g.off+o+len*size) xs').drawn:=by rw[FX];exact bz _
     refine hW.Tz hg hlive (by rw[hcs];intro cs e;cases e) (.cells (old++xs)) ⟨g.b,g.off+o,(len+n)*size,g.top,size⟩ rfl hsz hother hos BV hout hdr ?_;have hle:=aD.vQ (β:=β) (i:=h.next) ⟨g.b,g.off+o,(len+n)*size,g.top,size⟩ hW.xk;refine⟨hsame q1,?_,?_,?_,by simp[o2,x2],?_⟩
     .show(old++xs).length=(len+n)*size;rw[dL,o3,x3,qx]
     .show g.off+o+(len+n)*size<=g.top;omega
     .intro j hj;refine⟨?_,by rw[IJ];exact(q5 j hj).2⟩;by_cases hr:g.off+o+len*size<=j/\j<g.off+o+len*size+xs'.length
      .have:=Dk g.b xs' (g.off+o+len*size) w (λk hk=>(q5 _ (hin k hk)).1) (j - (g.off+o+len*size)) p0;rw[show g.off+o+len*size+(j - (g.off+o+len*size))=j by omega]at this;rw[this];simp
      .rw[zJ g.b xs' (g.off+o+len*size) w ⟨g.b,j,none⟩ (λ_ _=>by simp;omega)];exact(q5 j hj).1
     .intro j v hj;show∃v',(w.setCells g.b (g.off+o+len*size) xs').cell? ⟨g.b,g.off+o+j,none⟩=some v'/\VR _ v v';by_cases hjo:j<old.length
      .rw[iY hjo]at hj;obtain⟨aq7,r1,r2⟩:=DN (by unfold nG at hold;exact hold);rw[hcs]at r1;rcases r1 with r1|r1<;>cases r1
       rw[show len.mul size=len*size from rfl,pE,oH]at r2;split at r2
       .simp only[aI]at r2;have hj2:cs0[o+j]? =some v:=by
         rw[<- r2,qy,if_pos p0,jR]at hj;exact hj
        obtain⟨v',t1,t2⟩:=q7 (o+j) v hj2;refine⟨v',?_,t2.mono hle⟩;rw[zJ g.b xs' (g.off+o+len*size) w ⟨g.b,g.off+o+j,none⟩ (λ_ _=>by simp;omega)];rw[kE];exact t1
       .cases r2
      .rw[jm p0]at hj;obtain⟨v',t1,t2⟩:=x1.get hj;refine⟨v',?_,t2.mono hle⟩;have hlt:j - old.length<xs'.length:=by
        rcases sM (j - old.length) xs'.length with hh|hh
        .exact hh
        .rw[dY hh]at t1;cases t1
       have:=Dk g.b xs' (g.off+o+len*size) w (λk hk=>(q5 _ (hin k hk)).1) (j - old.length) hlt;rw[show g.off+o+len*size+(j - old.length)=g.off+o+j by omega]at this;rw[this,<- t1,bH hlt]
   .obtain⟨d1,d2⟩:=hW.drop hg;exact hfresh _ c' (h.kill j) rfl p0 rfl d1 d2 rfl
  .have hs':∃base',s'=.slice base' len cap:=by
    cases hvs with
    |sl0=>exact⟨_,rfl⟩
    |az=>exact⟨_,rfl⟩
    | @nU i' o' n' c1 c1' g' a' _ _ _ _ hz' _ _ _ _=>
      exfalso
      obtain⟨k,hk⟩:∃k,g'.sz=k+1:=⟨g'.sz - 1,p0⟩
      rw[hk]at TY;exact TY _ _ k rfl
   obtain⟨base',rfl⟩:=hs';exact hfresh base' cap h rfl p0 rfl hW (Eff.refl _ _ _ hW.dom) rfl
variable{k:IntKind}
def adu(h0:ats[0]? =some st)(h1:ats[1]? =some xt)(hu:P.underlying st=some (.slice e))(hx:P.underlying xt=some (.int k))
 (hs:jE P e=some size) (hsp:0<size) (hi:P.info? e=some i) (hz:i.zero=some z) (hzl:z.cells.size=size) {m:Nat} (hm:0<m) (hb:0<i.bytes) (hfit:m*i.bytes<=1073741824):
 ∃c rest,m<=c/\rest.length=(c - m)*size/\
  (Builtin.append_ ats ty #[.slice none 0 0,.int .i64 (m:Int)]).run P w=.ok (.slice (some ⟨w.heap.size,0,none⟩) m c) {w.drew with heap:=w.heap.push (.cells ⟨(Builtin.zeroCells z.cells m).toList++rest⟩ e)}:=by
 have hnb:m<=m*i.bytes:=Nat.le_mul_of_pos_right _ hb;have h48':¬(281474976710656<Builtin.nextslicecap m 0*i.bytes):=by
  have:=growslice_fits (need:=m) (old:=0) (bytes:=i.bytes) p0 p0;omega
 have hw:IntKind.i64.wrap (m:Int)=(m:Int):=IntWalk.i64_in (m:Int) ⟨p0,p0⟩;have hbi:¬((281474976710656:Int)<(m:Int)*(i.bytes:Int)):=by
  have h2:((m*i.bytes:Nat):Int)<=1073741824:=p0
  rw[Int.natCast_mul]at h2;omega
 have hneg:¬((m:Int)<0):=p0
 have hms:¬(m*size=0):=by
  have:=Nat.mul_pos hm hsp;omega
 have hm0:¬(m=0):=p0
 have hs0:¬(size=0):=p0
 have h63':¬((9223372036854775807:Int)<(m:Int)):=p0
 refine⟨grownCap w m 0 e,(Builtin.zeroCells z.cells (grownCap w m 0 e - m)).toList,?_,?_,?_⟩
 .unfold grownCap Question.cut;exact IL _ _
 .simp[Builtin.zeroCells,hzl]
 .have hsz:i.size=size:=by simpa[jE,hi]using hs
  simp[Builtin.append_,h0,h1,fE hu,fE hx,sizeOf,typeInfo,zeroValue,hi,hz,hw,hbi,hneg,hms,hm0,hs0,h63',h48',Question.forced,hsz,newRow,grownCap,asInt,asIntOf,Builtin.firstCells];have:∀Y Z:Array ah,Y++Z=⟨Y.toList++Z.toList⟩:=λY Z=>by apply Array.ext';simp
  rw[this];rfl
def adv{zv:ah}{z:ae ah}(h0:ats[0]? =some st)(h1:ats[1]? =some xt)(hu:P.underlying st=some (.slice e))(hxd:P.underlying xt=some (.int k))
 (hs:jE P e=some size) (hsp:0<size) (hi:P.info? e=some i) (hz:i.zero=some zv) (hzc:zv.cells=⟨z⟩) (hfr:gD z=true) (hzl:z.length=size) (hb:0<i.bytes) {m:Nat} (hm:0<m) (hfit:m*i.bytes<=1073741824) (hW:WR P β h w):
 ∃w' β' v',(Builtin.append_ ats ty #[.slice none 0 0,.int .i64 (m:Int)]).run P w=.ok v' w'/\VR β' (.slice (some ⟨h.next,0,some size⟩) m m) v'/\WR P β' (h.new (.cells (zeros z m))) w'/\Eff β h w β' (h.new (.cells (zeros z m))) w':=by
 have hzs:zv.cells.size=size:=by rw[hzc];exact hzl
 have F3:z≠[]:=λe=>by rw[e]at hzl;simp at hzl;omega
 obtain⟨cc,rest,a1,a2,a3⟩:=adu (w:=w) (ty:=ty) h0 h1 hu hxd hs hsp hi hz hzs hm hb hfit;have hrow:(Builtin.zeroCells zv.cells m).toList=zeros z m:=by
  unfold Builtin.zeroCells;rw[hzc];have:=Ji z m F3;rw[show(⟨z⟩:Array ah).size=z.length from rfl]at *;rw[this]
 rw[hrow]at a3;have hcap2:m+(cc - m)=cc:=p0
 have hlen:(zeros z m).length=m*size:=by rw[zeros_length,hzl]
 have hmul:m*size+rest.length=cc*size:=by rw[a2,<- qx,hcap2]
 have hW3:WR P β h w.drew:=hW.nV rfl;have NT:Eff β h w β h w.drew:=Eff.nV hW.dom rfl rfl rfl rfl;have hcells:=OR.FY (P:=P) (β:=β.add h.next ⟨w.heap.size,0,m*size,cc*size,size⟩) (w:=w.drew) (cs:=zeros z m) (cs':=zeros z m) e
  (aQ.free (Ah hfr m)) (vP (Ah hfr m)) rest size
 have hcells:OR P (β.add h.next ⟨w.heap.size,0,m*size,cc*size,size⟩) ⟨w.heap.size,0,m*size,cc*size,size⟩ {w.drew with heap:=w.drew.heap.push (.cells ⟨zeros z m++rest⟩ e)} (.cells (zeros z m)):=by
  rw[hlen,hmul]at hcells;exact hcells
 obtain⟨b1,b2⟩:=hW3.alloc (.cells (zeros z m)) (.cells ⟨zeros z m++rest⟩ e) ⟨w.heap.size,0,m*size,cc*size,size⟩ rfl rfl hcells;refine⟨_,_,_,a3,?_,b1,NT.trans b2⟩;have hb:=aD.aan β h.next ⟨w.heap.size,0,m*size,cc*size,size⟩
 exact VR.nU (g:=⟨w.heap.size,0,m*size,cc*size,size⟩) hb rfl rfl (bz _) hsp qe qe a1 (.inr rfl)
variable{args:Array ak}{x:ak}
def adw{s:ak}(ha:args.toList=[s,x])(hc:cop P ⟨dst,.call {callee:=.builtin .append,args,argTypes:=ats},type,pos,after,guard⟩=some c)
 (hr:c.run P ρ h=some (v,h')) (hs:VR β (ρ s) (ρ' s)) (hx:VR β (ρ x) (ρ' x)) (hW:WR P β h w):
 Good P β h w (execOp ρ' ⟨dst,.call {callee:=.builtin .append,args,argTypes:=ats},type,pos,after,guard⟩) v h':=by
 obtain rfl:args= #[s,x]:=s5
 rw[Ai];have hm:(#[s,x].map ρ')= #[ρ' s,ρ' x]:=qe
 rw[hm];simp only[cop]at hc;split at hc
 .rename_i st xt h0 h1;split at hc
  .rename_i e xd hu hxd;split at hc
   .rename_i size b z hsz hb hz;by_cases hint:∃k,xd=.int k
    .obtain⟨k,rfl⟩:=hint;have hc':c=.I4 e size (b+1) z s x:=by
      exact mc
     subst hc';obtain⟨zv,i,i1,i2,i3,i4,i5⟩:=Ag hz;obtain⟨hs1,hs2⟩:=uy hsz;have hzl:z.length=size:=by
      rw[hs1]at i5;simp only[aI]at i5;exact i5.symm
     have hib:i.bytes=b+1:=by rw[i1]at hb;simpa using hb
     simp only[aF.run]at hr;split at hr
     .rename_i n hns hnx;rw[hns]at hs;rw[hnx]at hx;have hs':ρ' s=.slice none 0 0:=by
       generalize ρ' s=q at hs;cases hs;rfl
      have hx':ρ' x=.int .i64 ((n+1:Nat):Int):=by
       generalize ρ' x=q at hx;cases hx;rfl
      rw[hs',hx'];cases hcond:(Nat.ble (Nat.mul (n+1) (b+1)) small&&Nat.ble (Nat.mul (n+1) size) small&&Nat.ble (n+1) small)with
      |false=>rw[hcond]at hr;cases hr
      |true=>
       rw[hcond]at hr;simp only[cond_true,aI,cB]at hr;obtain⟨rfl,rfl⟩:=hr;simp only[dG]at hcond;have hfit:=lg hcond.1.1;obtain⟨w',β',v',r1,r2,r3,r4⟩:=adv (ty:=type) h0 h1 hu hxd hs1 hs2 i1 i2 i3 i4 hzl p0 (m:=n+1) p0 (by rw[hib];exact hfit) hW;exact oT
     .cases hr
    have hni:∀k,xd≠.int k:=λk e=>hint ⟨k,e⟩;have hc':c=.append e size (b+1) s x:=by
     split at hc
     .exact absurd rfl (hni _)
     .exact mc
    subst hc';obtain⟨zv,i,i1,i2,i3,i4,i5⟩:=Ag hz;obtain⟨hs1,hs2⟩:=uy hsz;have hzl:zv.cells.size=size:=by
     rw[hs1]at i5;simp only[aI]at i5;rw[i3,i5];rfl
    have hib:i.bytes=b+1:=by rw[i1]at hb;simpa using hb
    simp only[aF.run]at hr;split at hr
    .rename_i n hn;split at hr
     .rename_i xs hxs;rw[<- hib]at hr;obtain⟨w',β',v',r1,r2,r3,r4⟩:=adt (ty:=type) h0 h1 hu hxd hni hs1 hs2 i1 i2 hzl p0 hn hxs hr hs hx hW;exact oT
     .cases hr
    .cases hr
   .cases hc
  .cases hc
 .cases hc
def adx{d:ak}(ha:args.toList=[d,x])(hc:cop P ⟨dst,.call {callee:=.builtin .copy,args,argTypes:=ats},type,pos,after,guard⟩=some c)
 (hr:c.run P ρ h=some (v,h')) (hd:VR β (ρ d) (ρ' d)) (hx:VR β (ρ x) (ρ' x)) (hW:WR P β h w):
 Good P β h w (execOp ρ' ⟨dst,.call {callee:=.builtin .copy,args,argTypes:=ats},type,pos,after,guard⟩) v h':=by
 obtain rfl:args= #[d,x]:=s5
 rw[Ai];have hm:(#[d,x].map ρ')= #[ρ' d,ρ' x]:=qe
 rw[hm];simp only[cop]at hc;split at hc
 .rename_i dt h0;split at hc
  .rename_i e hu;cases hsz:nT P e with
   |none=>simp[hsz]at hc
   |some size=>
    simp only[hsz,kD,aI]at hc;subst hc;obtain⟨hs1,hs2⟩:=uy hsz;simp only[aF.run]at hr;unfold Tm at hr;split at hr
    .rename_i base pz ady m hdv hl;simp only at hr;split at hr
     .cases hr
     .rename_i cs hcs;have hn:(cond (Nat.ble m pz) m pz)=Nat.min m pz:=by
       cases hb:Nat.ble m pz with
       |true=>have:=lg hb;show m=min m pz;omega
       |false=>
        have:¬m<=pz:=λhh=>by rw[II hh]at hb;cases hb
        show pz=min m pz;omega
      rw[hn]at hr hcs;obtain⟨cs',x1,x2,x3,x4,x5⟩:=Jl hcs hl (Nat.min_le_left _ _) hx hW;rw[hdv]at hd;have hmn:m.min pz=min m pz:=rfl;split at hr
      .rename_i i o f;split at hr
       .rename_i h2 hst;simp only[aI,cB]at hr;obtain⟨rfl,rfl⟩:=hr;obtain⟨g,a,c',hg,hd',ha1,ha2,hnc,hcc,hoff,_⟩:=hd.mD;have Gc:cs=[]\/(a.off=g.off+o/\a.spot=none):=by
         rcases hoff with hh|hh
         .left;have h00:m.min pz=0:=by rw[hmn];omega
          rw[h00]at x3;rw[<- mo,x3];simp
         .exact .inr hh
        obtain⟨w',p1,p2,p3⟩:=NS (d:=0) hW hg ha1 Gc hst x1 x2;have p1:=p1 0 rfl;have hadd:a.add 0=a:=by
         simp[Addr.add]
        rw[hadd]at p1;refine⟨.value (goInt (m.min pz)),w',β,_,?_,.inl rfl,.int _ _,p2,p3⟩;simp only[builtin];refine yG ?_;simp only[Builtin.copy_,h0,M8,Bv,ru,hd',dm,fE hu,dB,x4,nJ hs1,x5 w rfl,p1,ed]
       .cases hr
      .split at hr
       .rename_i hn0;simp only[aI,cB]at hr;obtain⟨rfl,rfl⟩:=hr;have hd':ρ' d=.slice none pz ady:=by generalize ρ' d=y at hd;cases hd;rfl
        refine Good.same hW (v':=goInt (m.min pz)) ?_ (by rw[hn0];exact .int _ _);simp only[builtin];refine yG ?_;simp only[Builtin.copy_,h0,M8,Bv,ru,hd',dm,fE hu,dB,x4,nJ hs1,x5 w rfl,ed]
       .cases hr
    .cases hr
  .cases hc
 .cases hc
def adz(ha:args.toList=[x])(hc:cop P ⟨dst,.call {callee:=.builtin .clear,args,argTypes:=ats},type,pos,after,guard⟩=some c)
 (hr:c.run P ρ h=some (v,h')) (hx:VR β (ρ x) (ρ' x)) (hW:WR P β h w):
 Good P β h w (execOp ρ' ⟨dst,.call {callee:=.builtin .clear,args,argTypes:=ats},type,pos,after,guard⟩) v h':=by
 obtain rfl:args= #[x]:=s5
 rw[Ai];have hm:(#[x].map ρ')= #[ρ' x]:=qe
 rw[hm];simp only[cop]at hc;split at hc
 .rename_i t h0;split at hc
  .rename_i e hu;split at hc
   .rename_i z zs hz;simp only[aI]at hc;subst hc;obtain⟨zv,i,hi,hzv,hzc,hfr,_⟩:=Ag hz;simp only[aF.run]at hr;split at hr
    .rename_i j o f n c hxv;split at hr
     .rename_i h2 hst;simp only[aI,cB]at hr;obtain⟨rfl,rfl⟩:=hr;rw[hxv]at hx;obtain⟨g,a,c',hg,hx',ha1,ha2,hnc,hcc,hoff,_⟩:=hx.mD;have Gc:zeros (z::zs) (n+1)=[]\/(a.off=g.off+o/\a.spot=none):=by
       rcases hoff with hh|hh
       .omega
       .exact .inr hh
      obtain⟨w',p1,p2,p3⟩:=NS (d:=0) hW hg ha1 Gc hst (aQ.free (Ah hfr (n+1))) (vP (Ah hfr (n+1)));have p1:=p1 0 rfl;have hadd:a.add 0=a:=by
       simp[Addr.add]
      rw[hadd]at p1;have hrow:(Builtin.zeroCells zv.cells (n+1)).toList=zeros (z::zs) (n+1):=by
       unfold Builtin.zeroCells;rw[hzc];have:=Ji (z::zs) (n+1) qe;rw[show(⟨z::zs⟩:Array ah).size=(z::zs).length from rfl]at *;rw[this]
      refine⟨.value (.tuple #[]),w',β,_,?_,.inl rfl,.dH _,p2,p3⟩;simp only[builtin];refine yG ?_;simp only[Builtin.clear_,h0,M8,Bv,hx',dm,fE hu,dB,zeroValue,typeInfo,hi,hzv,run_program,ed,hrow,p1]
     .cases hr
    .rename_i base c hxv;simp only[aI,cB]at hr;obtain⟨rfl,rfl⟩:=hr;rw[hxv]at hx;have hx':∃base' c',ρ' x=.slice base' 0 c':=by
      generalize ρ' x=y at hx;cases hx<;>exact⟨_,_,rfl⟩
     obtain⟨base',c',hx'⟩:=hx';refine Good.same hW (v':=.tuple #[]) ?_ (.dH _);simp only[builtin];refine yG ?_;cases base'<;>simp only[Builtin.clear_,h0,M8,Bv,hx',dm,fE hu,dB,ed]
    .cases hr
   .cases hc
  .cases hc
 .cases hc
end
end Go.Ideal
namespace Go.Ideal
variable {P:Program} {β:aD} {h:IH} {w:World}
variable{v:ah}{h':IH}
def TZ{x:aj ((Nat->ah)×bG)}(hr:rD x h=some (v,h')):∃f ob,x=some (f,ob)/\v=f h.next/\h'=h.new ob:=by
 unfold rD at hr;split at hr
 .rename_i f o;simp only[aI,cB]at hr;exact⟨f,o,rfl,hr.1.symm,hr.2.symm⟩
 .cases hr
def aF.makes:aF->Bool
 | .new .. | .box .. | .zX .. | .wZ| .zY .. =>true
 |_=>false
variable{c:aF}
def aF.T9(hm:c.makes=true)(ρ:ak->ah)(h:IH):c.run P ρ h=rD (c.alloc ρ) h:=by
 cases c<;>first|rfl|cases hm
variable{o:Oper}{ρ ρ':ak->ah}
def Ua{f:Nat->ah}{ob:bG}(hm:c.makes=true)(hc:cop P o=some c)(hρ:∀x∈o.op.operands,VR β (ρ x) (ρ' x))(ha:c.alloc ρ=some (f,ob)):vR P β w (execOp ρ' o) f ob:=by
 obtain⟨dst,op,type,pos,after,guard⟩:=o;cases op
 case alloc e=>exact acB hc ha
 case box e x=>exact acC hc ha (hρ x qq)
 case buildSlice t n ps=>exact acH hc ha λp hp=>hρ p.2 th
 case makeMap t r=>exact acD hc ha
 case makeSlice t l k=>exact acF hc ha (hρ l qq) (hρ k qq)
 case next it s=>
  cases s with
  |true=>simp[cop]at hc
  |false=>simp only[cop,aI]at hc;subst hc;cases hm
 all_goals
  exfalso
  revert hm;simp only[cop]at hc;repeat' split at hc
  all_goals first
   |contradiction
   |(cases hc;done)
   |(simp only[aI,jC,reduceCtorEq,false_and,and_false,exists_false]at hc;done)
   |(simp only[aI]at hc;subst hc;intro hm;cases hm)
   |(simp only[jC]at hc;obtain⟨_,_,rfl⟩:=hc;intro hm;cases hm)
def Ub(hc:cop P o=some c)(hρ:∀x∈o.op.operands,VR β (ρ x) (ρ' x))(hr:c.run P ρ h=some (v,h'))(hW:WR P β h w):
 Good P β h w (execOp ρ' o) v h':=by
 by_cases hm:c.makes=true
 .rw[aF.T9 hm]at hr;obtain⟨f,ob,ha,rfl,rfl⟩:=TZ hr;exact(Ua hm hc hρ ha).good hW
 obtain⟨dst,op,type,pos,after,guard⟩:=o;cases op
 case move x=>exact acI hc hr (hρ x qq) hW
 case assign x=>exact acJ hc hr (hρ x qq) hW
 case pick x y z=>exact acK hc hr (hρ x qq) (hρ y qq) (hρ z qq) hW
 case build t ps=>exact acM hc hr (λp hp=>hρ p.2 th) hW
 case load t a=>exact acN hc hr (hρ a qq) hW
 case store t a x=>exact acO hc hr (hρ a qq) (hρ x qq) hW
 case nilCheck x=>exact acP hc hr (hρ x qq) hW
 case binOp op t x y yt=>exact acS hc hr (hρ x qq) (hρ y qq) hW
 case unOp op t x=>exact acT hc hr (hρ x qq) hW
 case convert s d x=>exact adk hc hr (hρ x qq) hW
 case makeInterface t x=>exact acU hc hr (hρ x qq) hW
 case makeFunc fn first captured=>exact acV hc hr (λx hx=>hρ x Bx) (λx hx=>hρ x By) hW
 case slice t x lo hi mx=>exact ac1 hc hr (hρ x qq) (λy hy=>hρ y sC) (λy hy=>hρ y sC) (λy hy=>hρ y sC) hW
 case fieldAddr s x f=>exact acX hc hr (hρ x qq) hW
 case field t x f=>exact acY hc hr (hρ x qq) hW
 case indexAddr t x y=>exact acZ hc hr (hρ x qq) (hρ y qq) hW
 case index t x y=>exact adm hc hr (hρ x qq) (hρ y qq) hW
 case lookup t m k ok=>exact ac7 hc hr (hρ m qq) (hρ k qq) hW
 case mapUpdate t m k x=>exact ac9 hc hr (hρ m qq) (hρ k qq) (hρ x qq) hW
 case insert t m k x=>exact ada hc hr (hρ m qq) (hρ k qq) (hρ x qq) hW
 case range t x=>exact adb hc hr (hρ x qq) hW
 case entry x=>exact ade hc hr (hρ x qq) hW
 case typeAssert x xt t ok=>exact adf hc hr (hρ x qq) hW
 case extract x i=>exact ac0 hc hr (hρ x qq) hW
 case next it s=>
  cases s with
  |true=>simp[cop]at hc
  |false=>simp only[cop,aI]at hc;subst hc;cases hr
 case panic x=>simp only[cop,aI]at hc;subst hc;cases hr
 case defer cl=>
  obtain⟨callee,args,ats⟩:=cl;cases callee with
  |value f=>simp only[cop,aI]at hc;subst hc;cases hr
  |invoke x n=>simp[cop]at hc
  |builtin b=>simp[cop]at hc
 case call cl=>
  obtain⟨callee,args,ats⟩:=cl;cases callee with
  |value f=>simp only[cop,aI]at hc;subst hc;cases hr
  |invoke x n=>simp only[cop,aI]at hc;subst hc;cases hr
  |builtin b=>
   have hargs:∀x∈args.toList,VR β (ρ x) (ρ' x):=λx hx=>hρ x Bk;cases b
   case append=>
    cases ha:args.toList with
    |nil=>simp[cop,ha]at hc
    |cons s r=>cases r with
     |nil=>simp[cop,ha]at hc
     |cons x r=>cases r with
      |nil=>exact adw ha hc hr (hargs s r8) (hargs x r8) hW
      |cons y r=>simp[cop,ha]at hc
   case copy=>
    cases ha:args.toList with
    |nil=>simp[cop,ha]at hc
    |cons s r=>cases r with
     |nil=>simp[cop,ha]at hc
     |cons x r=>cases r with
      |nil=>exact adx ha hc hr (hargs s r8) (hargs x r8) hW
      |cons y r=>simp[cop,ha]at hc
   case clear=>
    cases ha:args.toList with
    |nil=>simp[cop,ha]at hc
    |cons s r=>cases r with
     |nil=>exact adz ha hc hr (hargs s r8) hW
     |cons y r=>simp[cop,ha]at hc
   case len=>
    cases ha:args.toList with
    |nil=>simp[cop,ha]at hc
    |cons s r=>cases r with
     |nil=>exact adn ha hc hr (hargs s r8) hW
     |cons y r=>simp[cop,ha]at hc
   case cap=>
    cases ha:args.toList with
    |nil=>simp[cop,ha]at hc
    |cons s r=>cases r with
     |nil=>exact ado ha hc hr (hargs s r8) hW
     |cons y r=>simp[cop,ha]at hc
   case min=>exact TW (.inl rfl) hc hr hargs hW
   case max=>exact TW (.inr rfl) hc hr hargs hW
   case recover=>simp only[cop,aI]at hc;subst hc;cases hr
   case panic=>
    cases ha:args.toList with
    |nil=>simp[cop,ha]at hc
    |cons s r=>cases r with
     |nil=>simp only[cop,ha,aI]at hc;subst hc;cases hr
     |cons y r=>simp[cop,ha]at hc
   all_goals (simp[cop]at hc)
 all_goals
  exfalso
  first
   |(simp[cop]at hc;done)
   |(apply hm
     simp only[cop]at hc;repeat' split at hc
     all_goals first
      |contradiction
      |(cases hc;done)
      |(simp only[aI]at hc;subst hc;rfl)
      |(simp only[jC]at hc;obtain⟨_,_,rfl⟩:=hc;rfl))
end Go.Ideal
namespace Go.Ideal
variable {P:Program} {β:aD} {h:IH} {w:World}
inductive pG(β:aD):List PanicEntry->List PanicEntry->Prop
 |nil:pG β [] []
 |cons {e e':PanicEntry} {l l':List PanicEntry} (hv:VR β e.v e'.v) (hr:e'.recovered=e.recovered) (hg:e'.goexit=e.goexit) (hl:pG β l l'):pG β (e::l) (e'::l')
variable{β':aD}
def pG.mono{β:aD}(h:β.le β'){l l':ae PanicEntry}(k:pG β l l'):pG β' l l':=by
 induction k with
 |nil=>exact .nil
 |cons hv hr hg _ ih=>exact .cons (hv.mono h) hr hg ih
def pG.append{l l' r r':ae PanicEntry}(k:pG β l l')(k2:pG β r r'):pG β (l++r) (l'++r'):=by
 induction k with
 |nil=>exact k2
 |cons hv hr hg _ ih=>exact .cons hv hr hg ih
inductive MR(β:aD):FrameMode->FrameMode->Prop
 |run:MR β .run .run
 |returning:MR β .returning .returning
 |panicking {l l':List PanicEntry} (h:pG β l l'):MR β (.panicking l) (.panicking l')
def MR.mono{β:aD}(h:β.le β'){m m':FrameMode}(k:MR β m m'):MR β' m m':=by
 cases k with
 |run=>exact .run
 |returning=>exact .returning
 |panicking k=>exact .panicking (k.mono h)
inductive uA(β:aD):List Deferred->List Deferred->Prop
 |nil:uA β [] []
 |fn {fn fn':Fn} {c c' a a':List Value} {l l':List Deferred} (hf:FR β fn fn') (hc:aQ β c c') (ha:aQ β a a') (hl:uA β l l'):uA β ({target:=.fn fn ⟨c⟩,args:=⟨a⟩}::l) ({target:=.fn fn' ⟨c'⟩,args:=⟨a'⟩}::l')
 |coll {r:Nat} {g:iC} {a a':Array Value} {l l':List Deferred} (hr:β r=some g) (hl:uA β l l'):uA β ({target:=.collected r,args:=a}::l) ({target:=.collected g.b,args:=a'}::l')
def uA.mono{β:aD}(h:β.le β'){l l':ae Deferred}(k:uA β l l'):uA β' l l':=by
 induction k with
 |nil=>exact .nil
 |fn hf hc ha _ ih=>exact .fn (hf.mono h) (hc.mono h) (ha.mono h) ih
 |coll hr _ ih=>exact .coll (h _ _ hr) ih
structure AR(β:aD)(X:Nat->Prop)(a:aU)(tm:Array Value)(df:List Deferred):Prop where
 size:tm.size=a.n
 tmps:∀i,¬X i->VR β (dD a.tmps i) (tm.getD i undef)
 out:∀i,a.n<=i->dD a.tmps i=dH
 defers:uA β a.defers df
def none':Nat->Prop:=λ_=>False
def AR.mono{β:aD}(h:β.le β'){X:Nat->Prop}{a:aU}{tm:Array ah}{df:ae Deferred}(k:AR β X a tm df):AR β' X a tm df:=
 ⟨k.size,λi hi=>(k.tmps i hi).mono h,k.out,k.defers.mono h⟩
def Jm(P:Program)(g:Nat):Nat:=((P.globals[g]?).map λx=>P.cellsOf x.type).getD 0
def GOK(P:Program)(β:aD):Prop:=∀g,g<P.globals.size->∃i,β g=some i/\i.b=g/\i.off=0/\i.top=Jm P g
variable{X:Nat->Prop}{a:aU}{tm:Array ah}{df:ae Deferred}
def AR.eval{fV:ae Deferred}(k:AR β X a tm df)(hG:GOK P β){x:ak}(hok:BM P x=true)(hx:∀t,x=.tmp t->¬X t):VR β (a.eval x) (Act.eval ⟨tm,fV⟩ x):=by
 cases x with
 |tmp t=>exact k.tmps t (hx t rfl)
 |const v=>
  show VR β v v;unfold BM at hok;split at hok
  .rename_i he;simp only[Operand.const.injEq]at he;subst he;exact .dH _
  .rename_i he;simp only[Operand.const.injEq]at he;subst he;exact VR.free hok
  .rename_i he;cases he
  .rename_i h1 h2 h3;exact absurd rfl (h2 v)
 |global g=>
  have hlt:g<P.globals.size:=by
   have:Nat.blt g P.globals.size=true:=hok;simpa[uj]using this
  obtain⟨i,hi,h1,h2,_⟩:=hG g hlt;have:=VR.ptr (β:=β) (o:=0) hi;rw[h1,h2]at this;exact this
 |func f=>exact .func (.func f) .nil .nil
def Jn(tm:Array ah)(d:Nat)(v:ah)(j:Nat)(hd:d<tm.size):(tm.setIfInBounds d v).getD j undef=if j=d then v else tm.getD j undef:=by
 simp only[uk,aci];by_cases h:d=j
 .subst h;simp[hd]
 .simp[h,Ne.symm h]
def AR.put(k:AR β X a tm df)(d:aj Tmp){v v':ah}(hv:VR β v v'):
 AR β (λi=>X i/\d≠some i) (a.put d v) (match d with|some d=>tm.setIfInBounds d v'|none=>tm) df:=by
 cases d with
 |none=>exact⟨k.size,λi hi=>k.tmps i λhx=>hi ⟨hx,qe⟩,k.out,k.defers⟩
 |some d=>
  show AR β _ (a.set d v) _ df;unfold aU.set;cases hb:Nat.blt d a.n with
  |false=>
   have hge:a.n<=d:=by
    rcases sM d a.n with hh|hh
    .have:Nat.blt d a.n=true:=by simpa[uj]using hh
     rw[this]at hb;cases hb
    .exact hh
   have hs:=k.size;have he:tm.setIfInBounds d v'=tm:=by
    apply Array.ext_getElem?;intro j;rw[aci];split
    .rename_i e;subst e;rw[if_neg p0,sN p0]
    .rfl
   simp only[cond_false];rw[he];refine⟨hs,λi hi=>?_,k.out,k.defers⟩;by_cases hx:X i
   .have hid:i=d:=by
     rcases Nat.decEq d i with hne|he
     .exact absurd ⟨hx,by simpa using hne⟩ hi
     .exact he.symm
    subst hid;rw[k.out i hge];exact .dH _
   .exact k.tmps i hx
  |true=>
   have hlt: @LT.lt Nat _ d a.n:=r7
   have hs:=k.size;simp only[cond_true];refine⟨by simpa using hs,λi hi=>?_,λi hi=>?_,k.defers⟩
   rotate_left
   .show dD (a.tmps.set d (some v)) i=dH;rw[DD,if_neg (by have:a.n<=i:=hi;omega)];exact k.out i hi
   show VR β (dD (a.tmps.set d (some v)) i) _;rw[DD,Jn tm d v' i p0];by_cases hid:i=d
   .rw[if_pos hid,if_pos hid];exact hv
   .rw[if_neg hid,if_neg hid];exact k.tmps i λhx=>hi ⟨hx,by simp[Ne.symm hid]⟩
end Go.Ideal
namespace Go.Ideal
variable {P:Program} {β:aD} {h:IH} {w:World}
def fr(b:Frame)(tm:Array ah)(df:ae Deferred)(todo:ae Item):Frame:={b with tmps:=tm,todo:=todo,defers:=df,mode:=.run}
section
variable {b:Frame} {tm:Array ah} {df:ae Deferred} {k:ae Item} {cs:ae Frame}
def Uc(todo:ae Item):(fr b tm df todo).eval=Act.eval ⟨tm,df⟩:=funext λx=>by cases x<;>rfl
def adA:step P (lone (fr b tm df (.code .skip::k)) cs w)=.next (lone (fr b tm df k) cs w):=step_lone_go rh
def adB{l:Nat}:step P (lone (fr b tm df (.code (.label l)::k)) cs w)=.next (lone (fr b tm df k) cs w):=step_lone_go rh
variable{id:Nat}
def adC:step P (lone (fr b tm df (.inBlock id::k)) cs w)=.next (lone (fr b tm df k) cs w):=step_lone_go rh
variable{c:Code}
def adD:step P (lone (fr b tm df (.inScope c::k)) cs w)=.next (lone (fr b tm df k) cs w):=step_lone_go rh
variable{x y:Code}
def Jo:step P (lone (fr b tm df (.code (.seq x y)::k)) cs w)=.next (lone (fr b tm df (.code x::.code y::k)) cs w):=step_lone_go rh
def Gd:step P (lone (fr b tm df (.code (.block id c)::k)) cs w)=.next (lone (fr b tm df (.code c::.inBlock id::k)) cs w):=step_lone_go rh
def adE:step P (lone (fr b tm df (.code (.loop c)::k)) cs w)=.next (lone (fr b tm df (.code c::.inLoop c::k)) cs w):=step_lone_go rh
def adF:step P (lone (fr b tm df (.inLoop c::k)) cs w)=.next (lone (fr b tm df (.code c::.inLoop c::k)) cs w):=step_lone_go rh
def Jp:step P (lone (fr b tm df (.code (.scope c)::k)) cs w)=.next (lone (fr b tm df (.code c::.inScope c::k)) cs w):=step_lone_go rh
def adG{c:ak}{t:Bool}(h:Act.eval ⟨tm,df⟩ c=.bool t):
 step P (lone (fr b tm df (.code (.cond c x y)::k)) cs w)=.next (lone (fr b tm df (.code (if t then x else y)::k)) cs w):=
 step_lone_go (by
  have he:=congrFun (Uc (b:=b) (tm:=tm) (df:=df) (.code (.cond c x y)::k)) c;rw[h]at he;simp only[fr]at he;simp[stepG,stepG.exec,fr,he])
def adH{k':ae Item}(h:exitTo id k=some k'):step P (lone (fr b tm df (.code (.exit id)::k)) cs w)=.next (lone (fr b tm df k') cs w):=
 step_lone_go (by simp[stepG,stepG.exec,fr,h])
def adI(hr:b.roundOf=none):step P (lone (fr b tm df (.code .ret::k)) cs w)=.next (lone {fr b tm df (.code .ret::k)with mode:=.returning} cs w):=
 step_lone_go xo
def adJ(hr:b.roundOf=none):step P (lone (fr b tm df []) cs w)=.next (lone {fr b tm df []with mode:=.returning} cs w):=
 step_lone_go xo
variable{ops:Array Oper}
def adK:step P (lone (fr b tm df (.code (.region id ops false)::k)) cs w)=.next (lone (fr b tm df (.inRegion ops (List.range ops.size)::k)) cs w):=
 step_lone_go rh
def adL:step P (lone (fr b tm df (.code (.region id ops true)::k)) cs w)=
 .next (lone (fr b tm df (.inRegion ops (Region.schedule (P.follows .mixedOrders) ops (w.tape w.drawn (.order b.fn id)))::k)) cs {w with drawn:=w.drawn+1}):=
 step_lone_go (by simp[stepG,stepG.exec,fr,choose,Sem.run,Question.forced,Question.cut])
def adM:step P (lone (fr b tm df (.inRegion ops []::k)) cs w)=.next (lone (fr b tm df k) cs w):=
 step_lone_go rh
def qa(tm:Array ah)(d:aj Tmp)(v:ah):Array ah:=match d with|some d=>tm.setIfInBounds d v|none=>tm
variable{i:Nat}{rest:ae Nat}
def Gf{v:ah}:(fr b tm df (.inRegion ops (i::rest)::k)).finish v=fr b (qa tm ((ops[i]?).bind (·.dst)) v) df (.inRegion ops rest::k):=by
 cases hd:(ops[i]?).bind (·.dst)<;>simp[Frame.finish,fr,qa,hd]
def Ud(hn:((ops[i]?).map (Region.wanted · (yielded ops tm))).getD false=false):
 step P (lone (fr b tm df (.inRegion ops (i::rest)::k)) cs w)=.next (lone (fr b (qa tm ((ops[i]?).bind (·.dst)) undef) df (.inRegion ops rest::k)) cs w):=by
 rw[<- Gf];exact step_lone_go (by
  have h':=hn;simp only[fr]at *;simp[stepG,stepG.exec,h'])
variable{o:Oper}
def Cc(ho:ops[i]? =some o)(hw:Region.wanted o (yielded ops tm)=true)(hd:b.roundOf=none\/∀c,o.op≠.defer c):
 stepG P true {frame:=fr b tm df (.inRegion ops (i::rest)::k),callers:=cs,status:=.running,dying:=none} w=
  stepG.apply P true (fr b tm df (.inRegion ops (i::rest)::k)) cs none (execOp (Act.eval ⟨tm,df⟩) o) w:=by
 have he:=Uc (b:=b) (tm:=tm) (df:=df) (.inRegion ops (i::rest)::k);simp only[fr]at he;simp only[stepG,fr,stepG.exec,ho,kD,hw,wT,if_true,stepG.oper,Frame.oper?,he];split
 .rename_i l c hr hc;rcases hd with hd|hd
  .rw[hd]at hr;cases hr
  .exact absurd hc (hd c)
 .rfl
def Jq(ho:ops[i]? =some o)(hw:Region.wanted o (yielded ops tm)=true)(hd:b.roundOf=none\/∀c,o.op≠.defer c){r:Next}{v:ah}{w':World}
 (hr:(execOp (Act.eval ⟨tm,df⟩) o).run P w=.ok r w') (hv:r=.value v\/(r=.skip/\v=undef)):
 step P (lone (fr b tm df (.inRegion ops (i::rest)::k)) cs w)=.next (lone (fr b (qa tm o.dst v) df (.inRegion ops rest::k)) cs w'):=by
 have hf:=Gf (b:=b) (tm:=tm) (df:=df) (k:=k) (ops:=ops) (i:=i) (rest:=rest) (v:=v);rw[ho]at hf;simp only[gy]at hf;rw[<- hf];refine step_lone_go ?_;rw[Cc ho hw hd];rcases hv with rfl|⟨rfl,rfl⟩<;>simp[stepG.apply,hr]
def adN(ho:ops[i]? =some o)(hw:Region.wanted o (yielded ops tm)=true)(hd:b.roundOf=none\/∀c,o.op≠.defer c){f:eD}{args:Array ah}{w':World}
 (hr:(execOp (Act.eval ⟨tm,df⟩) o).run P w=.ok (.enter f args) w'):
 step P (lone (fr b tm df (.inRegion ops (i::rest)::k)) cs w)=.next (lone (Frame.enter P f args .normal) (fr b tm df (.inRegion ops (i::rest)::k)::cs) w'):=by
 refine step_lone_go ?_;rw[Cc ho hw hd];simp[stepG.apply,hr,fr]
def adO(ho:ops[i]? =some o)(hw:Region.wanted o (yielded ops tm)=true)(hd:b.roundOf=none\/∀c,o.op≠.defer c){l:Nat}{f:eD}{tmps:Array ah}{x y:Code}{w':World}
 (hr:(execOp (Act.eval ⟨tm,df⟩) o).run P w=.ok (.round l f tmps x y) w'):
 step P (lone (fr b tm df (.inRegion ops (i::rest)::k)) cs w)=.next (lone (Frame.round l f tmps x y .normal) (fr b tm df (.inRegion ops (i::rest)::k)::cs) w'):=by
 refine step_lone_go ?_;rw[Cc ho hw hd];simp[stepG.apply,hr,fr]
def adP(ho:ops[i]? =some o)(hw:Region.wanted o (yielded ops tm)=true)(hd:b.roundOf=none\/∀c,o.op≠.defer c){v:ah}{w':World}
 (hr:(execOp (Act.eval ⟨tm,df⟩) o).run P w=.halt (.panic v) w'):
 step P (lone (fr b tm df (.inRegion ops (i::rest)::k)) cs w)=.next (lone {fr b tm df (.inRegion ops (i::rest)::k)with mode:=.panicking [{v,recovered:=false}]} cs w'):=by
 refine step_lone_go ?_;rw[Cc ho hw hd];simp[stepG.apply,hr,fr,Frame.raise]
def adQ(ho:ops[i]? =some o)(hw:Region.wanted o (yielded ops tm)=true)(hro:b.roundOf=none){d:Deferred}{w':World}
 (hr:(execOp (Act.eval ⟨tm,df⟩) o).run P w=.ok (.defer d) w'):
 step P (lone (fr b tm df (.inRegion ops (i::rest)::k)) cs w)=.next (lone (fr b (qa tm o.dst undef) (d::df) (.inRegion ops rest::k)) cs w'):=by
 have hf:=Gf (b:=b) (tm:=tm) (df:=d::df) (k:=k) (ops:=ops) (i:=i) (rest:=rest) (v:=undef);rw[ho]at hf;simp only[gy]at hf;rw[<- hf];refine step_lone_go ?_;rw[Cc ho hw (.inl hro)];simp[stepG.apply,hr,fr]
def Ue(ho:ops[i]? =some o)(hw:Region.wanted o (yielded ops tm)=true)(hro:b.roundOf=none){w':World}
 (hr:(execOp (Act.eval ⟨tm,df⟩) o).run P w=.ok .recover w'):
 step P (lone (fr b tm df (.inRegion ops (i::rest)::k)) cs w)=match tryRecover (fr b tm df (.inRegion ops (i::rest)::k)) cs with
  |some (v,cs')=>.next (lone (fr b (qa tm o.dst v) df (.inRegion ops rest::k)) cs' w')
  |none=>.next (lone (fr b (qa tm o.dst .nilIface) df (.inRegion ops rest::k)) cs w'):=by
 have hf:=λv=>Gf (b:=b) (tm:=tm) (df:=df) (k:=k) (ops:=ops) (i:=i) (rest:=rest) (v:=v);rw[ho]at hf;simp only[gy]at hf;have hre:(fr b tm df (.inRegion ops (i::rest)::k)).roundOf=none:=hro;cases ht:tryRecover (fr b tm df (.inRegion ops (i::rest)::k)) cs with
 |none=>
  exact j0
 |some p=>
  obtain⟨v,cs'⟩:=p;exact j0
end
end Go.Ideal
namespace Go.Ideal
variable {P:Program}
variable{ρ:ak->ah}{h:IH}{c:aF}{v:ah}
def Uf{h':IH}(hl:heavy c=false)(hm:c.makes=false)(hr:c.run P ρ h=some (v,h')):h'=h:=by
 cases c<;>first|(cases hl;done)|(cases hm;done)|skip
 all_goals
  simp only[aF.run,Bool.cond_eq_ite]at hr;repeat' split at hr
  all_goals first
   |(cases hr;done)
   |(simp only[aI,cB]at hr;exact hr.2.symm)
variable{h2:IH}
def Ug{m:ah}(hs:∀i o,h.get i=some o->h2.get i=some o){es:ae MapEntry}(he:entriesOf m h=some es):entriesOf m h2=some es:=by
 unfold entriesOf at he⊢;split at he
 .exact he
 .rename_i i;split at he
  .rename_i es1 c hg;simp only[hs _ _ hg];exact he
  .cases he
 .cases he
def adR(hl:heavy c=false)(hm:c.makes=false)(hs:∀i o,h.get i=some o->h2.get i=some o)(hr:c.run P ρ h=some (v,h)):c.run P ρ h2=some (v,h2):=by
 cases c<;>first|(cases hl;done)|(cases hm;done)|skip
 case gJ a=>
  simp only[aF.run]at hr⊢;split at hr
  .split at hr
   .rename_i u hu;simp only[aI,cB,zO]at hr;simp only[acy hs hu,hr]
   .cases hr
  .cases hr
 case rA n a=>
  simp only[aF.run]at hr⊢;split at hr
  .split at hr
   .rename_i cs hg;simp only[TE hs hg];exact jp
   .cases hr
  .cases hr
 case FD a=>
  simp only[aF.run]at hr⊢;split at hr
  .exact jp
  .split at hr
   .rename_i cs hg;simp only[TE hs hg];split at hr
    .rename_i bs hb;simp only[aI,cB,zO]at hr;simp only[hb,hr]
    .cases hr
   .cases hr
  .cases hr
 case lookup kt z m k ok=>
  simp only[aF.run,BK]at hr⊢;split at hr
  .rename_i u hu;split at hu
   .cases hu
   .rename_i es hes;simp only[Ug hs hes];simp only[aI,cB,zO]at hr;rw[hu];simp only[hr]
  .cases hr
 case entry x=>
  simp only[aF.run]at hr⊢;split at hr
  .split at hr
   .rename_i m since seen stepped hg;simp only[hs _ _ hg];split at hr
    .rename_i es clock hgm;simp only[hs _ _ hgm];split at hr
     .rename_i stamp hst;cases hb:Nat.beq clock stepped with
      |false=>rw[hb]at hr;cases hr
      |true=>
       rw[hb]at hr;simp only[cond_true]at hr⊢;split at hr
       .rename_i e he;exact jp
       .cases hr
     .cases hr
    .cases hr
   .cases hr
  .cases hr
 case I6 x=>
  simp only[aF.run]at hr⊢;split at hr
  .rename_i es hes;simp only[Ug hs hes];exact jp
  .cases hr
 all_goals
  simp only[aF.run,Bool.cond_eq_ite]at hr⊢;repeat' split at hr
  all_goals first
   |(cases hr;done)
   |(simp only[aI,cB,zO]at hr;subst hr;simp_all;done)
   |skip
def adS(hl:∀i o,h.get i=some o->i<h.next)(ob:bG):∀i o,h.get i=some o->(h.new ob).get i=some o:=λi o hi=>by
 rw[IH.iM,if_neg (by have:=hl i o hi;omega)];exact hi
def adT(hl:heavy c=false)(hm:c.makes=false)(hp:Dv c=false)(hr:c.run P ρ h=some (v,h))(h2:IH):c.run P ρ h2=some (v,h2):=by
 cases c<;>first|(cases hl;done)|(cases hm;done)|(cases hp;done)|skip
 all_goals
  simp only[aF.run,Bool.cond_eq_ite]at hr⊢;repeat' split at hr
  all_goals first
   |(cases hr;done)
   |(simp only[aI,cB,zO]at hr;subst hr;simp_all;done)
   |skip
variable{ρ':ak->ah}
def NU:∀(parts:ae (Nat×Nat×ak)) (z:ae ah),(∀p∈parts,ρ p.2.2=ρ' p.2.2)->sQ ρ z parts=sQ ρ' z parts:=by
 intro parts;induction parts with
 |nil=>intro z _;rfl
 |cons p parts ih=>
  intro z hp;obtain⟨off,size,x⟩:=p;rw[NC,NC,hp (off,size,x) qe];cases cellsOf (ρ' x)with
  |none=>rfl
  |some vs=>
   simp only;split
   .cases iZ z off vs with
    |none=>rfl
    |some cs=>exact ih cs λq hq=>hp q (by simp[hq])
   .rfl
def NV(l:ae ak)(hp:∀x∈l,ρ x=ρ' x):lq ρ l=lq ρ' l:=by
 rw[vN,vN];exact vF hp
def adU{fs:Array Field}:∀(l:ae (Nat×ak)) (pc:ae (Nat×Nat×ak)),zZ P fs l=some pc->∀q∈pc,∃p∈l,q.2.2=p.2:=by
 intro l;induction l with
 |nil=>intro pc h q hq;simp only[zZ,aI]at h;subst h;simp at hq
 |cons p l ih=>
  intro pc h q hq;obtain⟨i,x⟩:=p;simp only[zZ]at h;split at h
  .rename_i f r hf hr;split at h
   .rename_i s hs;simp only[aI]at h;subst h;rcases bN.1 hq with rfl|hq
    .exact⟨(i,x),qe,rfl⟩
    .obtain⟨p,hp,he⟩:=ih r hr q hq;exact⟨p,by simp[hp],he⟩
   .cases h
  .cases h
def NW(x:aj ak)(h:∀y,x=some y->ρ y=ρ' y):ja ρ x=ja ρ' x:=by
 cases x with
 |none=>rfl
 |some y=>simp[ja,h y rfl]
def DX{o:Oper}(hc:cop P o=some c)(hρ:∀x∈o.op.operands,ρ x=ρ' x)(h:IH):c.run P ρ h=c.run P ρ' h/\c.alloc ρ=c.alloc ρ':=by
 obtain⟨dst,op,type,pos,after,guard⟩:=o;cases op
 case build t ps=>
  have hp:∀p∈ps.toList,ρ p.2=ρ' p.2:=λp hp=>hρ p.2 th;simp only[cop]at hc;split at hc
  .rename_i fs z _ _;split at hc
   .rename_i pc hpc;simp only[aI]at hc;subst hc;refine⟨?_,rfl⟩;simp only[aF.run];unfold placesOf at hpc;split at hpc
    .have hq2:∀q∈pc,ρ q.2.2=ρ' q.2.2:=λq hq=>by
      obtain⟨p,h1,h2⟩:=adU _ _ hpc q hq;have:=hp p h1;rw[<- h2]at this;exact this
     rw[NU pc z hq2]
    .cases hpc
   .cases hc
  .split at hc
   .rename_i s _;simp only[aI]at hc;subst hc;refine⟨?_,rfl⟩;simp only[aF.run];rw[NU _ _ λq hq=>by obtain⟨p,h1,rfl⟩:=cZ.1 hq;exact hp p h1]
   .cases hc
  .cases hc
 case buildSlice t n ps=>
  have hp:∀p∈ps.toList,ρ p.2=ρ' p.2:=λp hp=>hρ p.2 th;simp only[cop]at hc;split at hc
  .split at hc
   .split at hc
    .simp only[aI]at hc;subst hc;simp only[aF.run,aF.alloc];rw[NU _ _ λq hq=>by obtain⟨p,h1,rfl⟩:=cZ.1 hq;exact hp p h1];exact⟨rfl,rfl⟩
    .cases hc
   .cases hc
  .cases hc
 case makeFunc fn first captured=>
  simp only[cop]at hc;split at hc
  .simp only[aI]at hc;subst hc;refine⟨?_,rfl⟩;simp only[aF.run];rw[NV first.toList λx hx=>hρ x Bx,NV captured.toList λx hx=>hρ x By]
  .cases hc
 case slice t x lo hi mx=>
  have h0:ρ x=ρ' x:=hρ x qq;have h1:=NW (ρ:=ρ) (ρ':=ρ') lo λy hy=>hρ y sC;have h2:=NW (ρ:=ρ) (ρ':=ρ') hi λy hy=>hρ y sC;have h3:=NW (ρ:=ρ) (ρ':=ρ') mx λy hy=>hρ y sC;simp only[cop]at hc;split at hc
  .simp only[aI]at hc;subst hc;simp only[aF.run,aF.alloc,h0,h1,h2,h3,and_self]
  .exact ki
  .exact ki
  .cases hc
 case call cl=>
  obtain⟨callee,args,ats⟩:=cl;cases callee with
  |value f=>simp only[cop,aI]at hc;subst hc;exact⟨rfl,rfl⟩
  |invoke x n=>simp only[cop,aI]at hc;subst hc;exact⟨rfl,rfl⟩
  |builtin b=>
   have hargs:∀x∈args.toList,ρ x=ρ' x:=λx hx=>hρ x Bk;have hl:=NV args.toList hargs;simp only[cop]at hc;repeat' split at hc
   all_goals first
    |contradiction
    |(cases hc;done)
    |skip
   all_goals first
    |(simp only[aI]at hc;subst hc)
    |(simp only[jC]at hc;obtain⟨_,_,rfl⟩:=hc)
   all_goals first
    |exact⟨rfl,rfl⟩
    |(simp only[aF.run,aF.alloc,hl,and_self];done)
    |(simp only[*,bN,Fs,or_false,forall_eq_or_imp,forall_eq]at hargs
      simp only[aF.run,aF.alloc,hargs,and_self])
 all_goals
  simp only[cop]at hc;repeat' split at hc
  all_goals first
   |contradiction
   |(cases hc;done)
   |skip
 all_goals first
  |(simp only[aI]at hc;subst hc)
  |(simp only[jC]at hc;obtain⟨_,_,rfl⟩:=hc)
  |(simp only[reduceCtorEq]at hc;done)
 all_goals (simp[Op.operands]at hρ;simp only[aF.run,aF.alloc,hρ,and_self])
end Go.Ideal
namespace Go.Ideal
variable {P:Program}
variable{β:aD}{h:IH}{w:World}
def WR.hide(hW:WR P β h w)(ob:bG):WR P β (h.new ob) w/\Eff β h w β (h.new ob) w:=by
 have hget:∀i,i<h.next->(h.new ob).get i=h.get i:=λi hi=>by rw[IH.iM,if_neg p0]
 refine⟨⟨?_,?_,?_,?_⟩,⟨λ_ _=>rfl,?_,?_,?_,bz _,?_,rfl,rfl,rfl,bz _,λ_ _ _=>rfl,?_,λ_ _ _ _ _ _ _=>rfl,bz _⟩⟩
 .intro i g hi;have:=hW.dom i g hi;show i<h.next+1;omega
 .intro i o hi;show i<h.next+1
  rw[IH.iM]at hi;split at hi
  .omega
  .have:=hW.live i o hi;omega
 .intro i g o hi ho;rw[hget i (hW.dom i g hi)]at ho;exact hW.obj i g o hi ho
 .intro i j g k hi hj h1 h2 hr he;rw[hget i (hW.dom i g hi)]at h1;rw[hget j (hW.dom j k hj)]at h2;exact hW.inj i j g k hi hj h1 h2 (hr.imp (λq cs e=>q cs (by rw[hget i (hW.dom i g hi)];exact e)) (λq cs e=>q cs (by rw[hget j (hW.dom j k hj)];exact e))) he
 .show h.next<=h.next+1;omega
 .intro i hi hn;rw[hget i hi]at hn;exact hn
 .intro i hi _;exact hget i hi
 .intro i _ hi;exact hget i hi
 .intro i g hg hi;exact absurd (hW.dom i g hg) p0
def WR.NY(hW:WR P β h w){id:Nat}(hb:β id=none)(hlt:id<h.next){ob:bG}(hg:h.get id=some ob){o':Obj}{g:iC}(hgb:g.b=w.heap.size)
 (ho:OR P (β.add id g) g {w with heap:=w.heap.push o'} ob):WR P (β.add id g) h {w with heap:=w.heap.push o'}:=by
 have hle:β.le (β.add id g):=aD.vQ g hb;have hheap:∀b,b<w.heap.size->({w with heap:=w.heap.push o'}:World).heap[b]? =w.heap[b]?:=λb hb=>by
  exact ph
 have hold:∀j k,β j=some k->h.get j≠none->k.b<w.heap.size:=λj k hk hj=>by
  cases hx:h.get j with
  |none=>exact absurd hx hj
  |some o=>exact(hW.obj j k o hk hx).lt
 refine⟨?_,hW.live,?_,?_⟩
 .intro j k hk;by_cases e:j=id
  .subst e;exact hlt
  .rw[aD.lY _ _ e]at hk;exact hW.dom j k hk
 .intro j k o hk hx;by_cases e:j=id
  .subst e;rw[aD.aan]at hk;cases hk;rw[hg]at hx;cases hx;exact ho
  .rw[aD.lY _ _ e]at hk;exact((hW.obj j k o hk hx).mono hle).congr (hheap _ (hold j k hk (by rw[hx];simp)))
 .intro j l k m hk hm hj hl hr he;by_cases ej:j=id
  .by_cases el:l=id
   .omega
   .subst ej;rw[aD.aan]at hk;cases hk;rw[aD.lY _ _ el]at hm;have:=hold l m hm hl;omega
  .rw[aD.lY _ _ ej]at hk;by_cases el:l=id
   .subst el;rw[aD.aan]at hm;cases hm;have:=hold j k hk hj;omega
   .rw[aD.lY _ _ el]at hm;exact hW.inj _ _ _ _ hk hm hj hl hr he
section
variable (P) (ops:Array Oper) (bO:Nat->Nat->Bool) (hv:Nat->Bool)
structure vU(done:List Nat)(i:Nat):Prop where
 lt:i<ops.size
 new:i∉done
 pre:∀j,bO i j=true->j∈done
 heavy:hv i=true->(∀j∈done,hv j=true->bO i j=true)/\∀j,j<ops.size->hv j=false->j∉done->∃k,bO j k=true/\k∉done
 own:hv i=false->∀o d,ops[i]? =some o->o.dst=some d->d∉looks ops o
 put:∀o d,ops[i]? =some o->o.dst=some d->∀j∈done,∀p,ops[j]? =some p->(d∈looks ops p\/p.dst=some d)->hv i=true/\bO i j=true
 look:∀o,ops[i]? =some o->∀j∈done,∀p,ops[j]? =some p->∀d,p.dst=some d->d∈looks ops o->bO i j=true
def Gg:ae Nat->Prop
 |[]=>True
 |i::d=>vU ops bO hv d i/\Gg d
def Aj:ae Nat->ae Nat->ae bJ->Prop
 |[],done,l=>l=[]/\∀i,i<ops.size->i∈done
 |i::rest,done,l=>vU ops bO hv done i/\∃s re r,l=⟨s,re⟩::r/\kG P ops i=some s/\(hv i=false->heavy s.op=false)/\
   (hv i=true->∀j∈done,hv j=false->bO i j=false->∀t,kG P ops j=some t->Dv t.op=true->t∈re)/\Aj rest (i::done) r
def vV:ae Nat->ae Nat->Prop
 |S,[]=>∀i,i<ops.size->i∉S->∃j,bO i j=true/\j∉S
 |S,i::r=>i<ops.size/\i∉S/\(∀j,bO i j=true->j∈S)/\vV (i::S) r
def adV:∀(rest D:ae Nat) (l:ae bJ),Aj P ops bO hv rest D l->∀y∈D,hv y=true->∀x,x<ops.size->x∉D->hv x=true->bO x y=true:=by
 intro rest;induction rest with
 |nil=>intro D l hp y _ _ x hx hxd _;exact absurd (hp.2 x hx) hxd
 |cons i rest ih=>
  intro D l hp y hy Uh x hx hxd DW;obtain⟨h1,s,re,r,_,_,_,_,h2⟩:=hp;by_cases e:x=i
  .subst e;exact(h1.heavy DW).1 y hy Uh
  .exact ih _ _ h2 y (by simp[hy]) Uh x hx (by simp[e,hxd]) DW
def Ui:∀(done S:ae Nat),Gg ops bO hv done->(∃x∈done,x∉S)->∃x∈done,x∉S/\∀j,bO x j=true->j∈S:=by
 intro done;induction done with
 |nil=>intro S _ h;obtain⟨x,hx,_⟩:=h;simp at hx
 |cons i d ih=>
  intro S hd h;obtain⟨h1,h2⟩:=hd;by_cases hp:∃x∈d,x∉S
  .obtain⟨x,a,b,c⟩:=ih S h2 hp;exact⟨x,by simp[a],b,c⟩
  .have hall:∀x∈d,x∈S:=λx hx=>Decidable.byContradiction λhn=>hp ⟨x,hx,hn⟩;obtain⟨x,hx,hxs⟩:=h;rcases bN.1 hx with rfl|hx
   .exact⟨x,qe,hxs,λj hj=>hall j (h1.pre j hj)⟩
   .exact absurd (hall x hx) hxs
end
section
variable (P) (ops:Array Oper) (hv:Nat->Bool)
inductive Uj(β:aD)(lo:Nat)(a:aU)(h:IH)(al:Nat->Nat)(i:Nat):Prop
 |skip (o:Oper) (s:iy) (ho:ops[i]? =some o) (hs:kG P ops i=some s) (hl:heavy s.op=false) (hw:a.wants s.guard=some false) (hd:∀d,s.dst=some d->dD a.tmps d=um\/a.n<=d)
 |lZ (o:Oper) (s:iy) (ho:ops[i]? =some o) (hs:kG P ops i=some s) (hl:heavy s.op=false) (hw:a.wants s.guard=some true) (hm:s.op.makes=false) (u:Value) (hr:s.op.run P a.eval h=some (u,h))
   (hd:∀d,s.dst=some d->dD a.tmps d=u\/a.n<=d)
 |make (o:Oper) (s:iy) (ho:ops[i]? =some o) (hs:kG P ops i=some s) (hl:heavy s.op=false) (hw:a.wants s.guard=some true) (hm:s.op.makes=true) (f:Nat->Value) (ob:bG) (hr:s.op.alloc a.eval=some (f,ob))
   (hlo:lo<=al i) (hlt:al i<h.next) (hb:β (al i)=none) (hg:h.get (al i)=some ob) (hd:∀d,s.dst=some d->dD a.tmps d=f (al i)\/a.n<=d)
def waits(done S:ae Nat)(t:Nat):Prop:=∃i o,i∈done/\i∉S/\ops[i]? =some o/\o.dst=some t
structure Inv(bO:Nat->Nat->Bool)(β0:aD)(h0:IH)(w0:World)(done S:List Nat)(β:aD)(a:aU)(h:IH)(w:World)(tm:Array Value)(df:List Deferred):Prop where
 uB:Gg ops bO hv done
 sub:∀i∈S,i∈done
 Gh:∀i∈done,hv i=true->i∈S
 pend:∃al:Nat->Nat,(∀i∈done,i∉S->Uj P ops β h0.next a h al i)/\∀i j,i∈done->j∈done->i∉S->j∉S->i≠j->(∃s,kG P ops i=some s/\s.op.makes=true/\a.wants s.guard=some true)->(∃s,kG P ops j=some s/\s.op.makes=true/\a.wants s.guard=some true)->al i≠al j
 act:AR β (waits ops done S) a tm df
 wr:WR P β h w
 uC:Eff β0 h0 w0 β h w
end
variable{ops:Array Oper}{s:iy}
def pI{i:Nat}(h:kG P ops i=some s):∃o,ops[i]? =some o/\cop P o=some s.op/\s.dst=o.dst/\(∀x∈o.op.operands,BM P x=true)/\
 ((o.guard=none/\s.guard=none)\/∃j want t,o.guard=some (j,want)/\(ops[j]?).bind (·.dst)=some t/\s.guard=some (t,want)):=by
 unfold kG at h;cases ho:ops[i]? with
 |none=>rw[ho]at h;cases h
 |some o=>
  rw[ho]at h;simp only[gy]at h;refine⟨o,rfl,?_⟩;unfold FI at h;split at h
  .rename_i hall;have Uk:∀x∈o.op.operands,BM P x=true:=λx hx=>(iE.1 hall) x qT;split at h
   .cases h
   .rename_i c hc;split at h
    .rename_i hg;simp only[aI]at h;subst h;exact⟨hc,rfl,Uk,.inl ⟨hg,rfl⟩⟩
    .rename_i j want hg;split at h
     .rename_i t ht;simp only[aI]at h;subst h;exact⟨hc,rfl,Uk,.inr ⟨j,want,t,hg,ht,rfl⟩⟩
     .cases h
  .cases h
variable{o:Oper}
def Gi{t:Nat}(h:(∃x∈o.op.operands,x=.tmp t)\/∃j want,o.guard=some (j,want)/\(ops[j]?).bind (·.dst)=some t):t∈looks ops o:=by
 unfold looks;rcases h with⟨x,hx,rfl⟩|⟨j,want,h1,h2⟩
 .exact jS _ (IM.2 ⟨.tmp t,by simpa using hx,rfl⟩)
 .refine ou _ ?_;rw[h1];simp[h2]
def Jr{X:Nat->Prop}{a:aU}{tm:Array ah}{df:ae Deferred}(hg:(o.guard=none/\s.guard=none)\/∃j want t,o.guard=some (j,want)/\(ops[j]?).bind (·.dst)=some t/\s.guard=some (t,want))
 (k:AR β X a tm df) (hx:∀t,t∈looks ops o->¬X t) {r:Bool} (hw:a.wants s.guard=some r):Region.wanted o (yielded ops tm)=r:=by
 rcases hg with⟨h1,h2⟩|⟨j,want,t,h1,h2,h3⟩
 .rw[h2]at hw;simp only[aU.wants,aI]at hw;simp[Region.wanted,h1,<- hw]
 .rw[h3]at hw;have hv:=k.tmps t (hx t (Gi (.inr ⟨j,want,h1,h2⟩)));simp only[aU.wants]at hw;have hy:Region.wanted o (yielded ops tm)=((match tm[t]? with|some (.bool b)=>some b|_=>none)==some want):=by
   simp only[Region.wanted,h1,yielded,h2,gy];rfl
  rw[hy];split at hw
  .rename_i b hb;rw[hb]at hv;have hv':=hv.Jg;rw[uk]at hv';cases ht:tm[t]? with
   |none=>rw[ht]at hv';simp[undef]at hv'
   |some u=>
    rw[ht]at hv';simp only[wT]at hv';subst hv';simp only[aI]at hw;subst hw;cases b<;>cases want<;>rfl
  .rename_i c hb;rw[hb]at hv;simp only[aI]at hw;subst hw;generalize hz:tm.getD t undef=z at hv;cases hv;rw[uk]at hz;cases ht:tm[t]? with
   |none=>rfl
   |some u=>
    rw[ht]at hz;simp only[wT]at hz;subst hz;rfl
  .cases hw
end Go.Ideal
namespace Go.Ideal
variable {P:Program} {ops:Array Oper} {bO:Nat->Nat->Bool} {hv:Nat->Bool}
variable{β:aD}
def GOK.le{β':aD}(h:β.le β')(k:GOK P β):GOK P β':=λg hg=>let⟨i,a,b⟩:=k g hg;⟨i,h _ _ a,b⟩
def Eff.NY{β0:aD}{h0 h:IH}{w0 w:World}(e:Eff β0 h0 w0 β h w){id:Nat}{g:iC}(hlo:h0.next<=id)(hgb:g.b=w.heap.size)(o':Obj):Eff β0 h0 w0 (β.add id g) h {w with heap:=w.heap.push o'} where
 agree i hi:=(aD.lY _ _ p0).trans (e.agree i hi)
 next:=e.next
 alive:=e.alive
 hid:=e.hid
 low:=e.low
 kept:=e.kept
 os:=e.os
 tape:=e.tape
 output:=e.output
 drawn:=e.drawn
 size:=by have:=e.size;simp;omega
 keep b hb hno:=by
  rw[<- e.keep b hb hno];have:=e.size;exact ph
 fresh i k hk hi:=by
  by_cases ei:i=id
  .subst ei;rw[aD.aan]at hk;cases hk;left;rw[hgb];exact e.size
  .rw[aD.lY _ _ ei]at hk;exact e.fresh i k hk hi
 sU i k hl hi hk hn hb:=by
  rw[<- e.sU i k hl hi hk hn hb];have:=e.size;show(w.heap.push o')[k.b]? =_;rw[Fp,if_neg p0]
def NZ:∀{done:ae Nat},Gg ops bO hv done->∀{x:Nat},x∈done->∃d,vU ops bO hv d x:=by
 intro done;induction done with
 |nil=>intro _ x hx;simp at hx
 |cons i d ih=>
  intro hd x hx;rcases bN.1 hx with rfl|hx
  .exact⟨d,hd.1⟩
  .exact ih hd.2 hx
def adW:∀{done:ae Nat},Gg ops bO hv done->∀{x y:Nat},x∈done->y∈done->x≠y->(∃d,vU ops bO hv d y/\x∈d)\/(∃d,vU ops bO hv d x/\y∈d):=by
 intro done;induction done with
 |nil=>intro _ x y hx;simp at hx
 |cons i d ih=>
  intro hd x y hx hy hne;rcases bN.1 hx with e1|hx'
  .rcases bN.1 hy with e2|hy'
   .exact absurd (e1.trans e2.symm) hne
   .subst e1;exact .inr ⟨d,hd.1,hy'⟩
  .rcases bN.1 hy with e2|hy'
   .subst e2;exact .inl ⟨d,hd.1,hx'⟩
   .exact ih hd.2 hx' hy' hne
section
variable {β0:aD} {h0:IH} {w0:World} {done S:ae Nat} {β:aD} {a:aU} {h:IH} {w:World} {tm:Array ah} {df:ae Deferred}
def Inv.N7(hI:Inv P ops hv bO β0 h0 w0 done S β a h w tm df){x:Nat}(hx:x∈done)(hs:x∉S):hv x=false:=by
 cases hh:hv x with
 |false=>rfl
 |true=>exact absurd (hI.Gh x hx hh) hs
def Inv.Js(hI:Inv P ops hv bO β0 h0 w0 done S β a h w tm df){x:Nat}(hx:x∈done)(hs:x∉S)(hpre:∀j,bO x j=true->j∈S){o:Oper}(ho:ops[x]? =some o){t:Nat}(ht:t∈looks ops o):¬waits ops done S t:=by
 rintro⟨y,p,hy,hys,hp,lD⟩;by_cases e:x=y
 .subst e;rw[ho]at hp;cases hp;obtain⟨d,hd⟩:=NZ hI.uB hx;exact hd.own (hI.N7 hx hs) o t ho lD ht
 .rcases adW hI.uB hx hy e with⟨d,hd,hxd⟩|⟨d,hd,DY⟩
  .have:=(hd.put p t hp lD x hxd o ho (.inl ht)).1;rw[hI.N7 hy hys]at this;cases this
  .exact hys (hpre y (hd.look o ho y DY p hp t lD ht))
def Inv.N8(hI:Inv P ops hv bO β0 h0 w0 done S β a h w tm df){x:Nat}(hx:x∈done)(hs:x∉S){o:Oper}(ho:ops[x]? =some o){β':aD}(hle:β.le β'){u v':ah}(hd:∀d,o.dst=some d->dD a.tmps d=u\/a.n<=d)(hv':VR β' u v'):
 AR β' (waits ops done (x::S)) a (qa tm o.dst v') df:=by
 have hA:=hI.act;refine⟨?_,λt ht=>?_,hA.out,hA.defers.mono hle⟩
 .rw[<- hA.size];unfold qa;split<;>simp
 .by_cases e:o.dst=some t
  .rw[e];show VR β' _ ((tm.setIfInBounds t v').getD t undef);by_cases hlt:t<tm.size
   .rw[Jn tm t v' t hlt,if_pos rfl];rcases hd t e with h1|h1
    .rw[h1];exact hv'
    .rw[hA.out t h1];exact .dH _
   .rw[hA.out t (by rw[<- hA.size];omega)];exact .dH _
  .have hnw:¬waits ops done S t:=by
    rintro⟨y,p,hy,hys,hp,lD⟩;refine ht ⟨y,p,hy,?_,hp,lD⟩;intro hc;rcases bN.1 hc with rfl|hc
    .rw[ho]at hp;cases hp;exact e lD
    .exact hys hc
   have nW:=(hA.tmps t hnw).mono hle;cases hd2:o.dst with
   |none=>exact nW
   |some d=>
    show VR β' _ ((tm.setIfInBounds d v').getD t undef);have hne:d≠t:=λe2=>e (by rw[hd2,e2]);rw[uk,IK hne,<- uk];exact nW
def Inv.take(hI:Inv P ops hv bO β0 h0 w0 done S β a h w tm df)(hG:GOK P β0)(hdom:∀i g,β0 i=some g->i<h0.next){x:Nat}(hx:x∈done)(hs:x∉S)(hpre:∀j,bO x j=true->j∈S)(b:Frame)(k:ae Item)(cs:ae Frame)(rest:ae Nat):
 ∃β' w' tm',step P (lone (fr b tm df (.inRegion ops (x::rest)::k)) cs w)=.next (lone (fr b tm' df (.inRegion ops rest::k)) cs w')/\β.le β'/\Inv P ops hv bO β0 h0 w0 done (x::S) β' a h w' tm' df:=by
 obtain⟨al,hp,hal⟩:=hI.pend;have hGβ:GOK P β:=hG.le (hI.uC.le hdom);have N9:∀i∈done,hv i=true->i∈x::S:=λi hi hh=>dO _ (hI.Gh i hi hh);have hsub:∀i∈x::S,i∈done:=λi hi=>by
  rcases bN.1 hi with rfl|hi
  .exact hx
  .exact hI.sub i hi
 have xm:∀y,y∉x::S->y∉S/\y≠x:=λy hy=>⟨λhc=>hy (dO _ hc),λe=>hy s7⟩
 have Ul:∀{o:Oper},ops[x]? =some o->∀y∈o.op.operands,∀t,y=.tmp t->¬waits ops done S t:=λho y hy t ht=>hI.Js hx hs hpre ho (Gi (.inl ⟨y,hy,ht⟩));have keep:∀(β':aD),(∀j,j∈done->j∉x::S->(∃s,kG P ops j=some s/\s.op.makes=true/\a.wants s.guard=some true)->β' (al j)=β (al j))->∀i∈done,i∉x::S->Uj P ops β' h0.next a h al i:=by
  intro β' hb i hi his;cases hp i hi (xm i his).1 with
  |skip o s ho hs hl hw hd=>exact .skip o s ho hs hl hw hd
  |lZ o s ho hs hl hw hm u hr hd=>exact .lZ o s ho hs hl hw hm u hr hd
  |make o s ho hs hl hw hm f ob hr hlo hlt hbb hg hd=>exact .make o s ho hs hl hw hm f ob hr hlo hlt (by rw[hb i hi his ⟨s,hs,hm,hw⟩];exact hbb) hg hd
 have Oa:∀i j,i∈done->j∈done->i∉x::S->j∉x::S->i≠j->(∃s,kG P ops i=some s/\s.op.makes=true/\a.wants s.guard=some true)->(∃s,kG P ops j=some s/\s.op.makes=true/\a.wants s.guard=some true)->al i≠al j:=
  λi j hi hj his hjs=>hal i j hi hj (xm i his).1 (xm j hjs).1
 cases hp x hx hs with
 |skip o s ho hcs hl hw hd=>
  obtain⟨o',ho',gu,hdst,vW,hgd⟩:=pI hcs;rw[ho]at ho';cases ho';have hwant:=Jr hgd hI.act (λt ht=>hI.Js hx hs hpre ho ht) hw;refine⟨β,w,qa tm o.dst undef,?_,λ_ _ e=>e,hI.uB,hsub,N9,⟨al,keep β λ_ _ _ _=>rfl,Oa⟩,?_,hI.wr,hI.uC⟩
  .have:=Ud (P:=P) (b:=b) (tm:=tm) (df:=df) (k:=k) (cs:=cs) (w:=w) (ops:=ops) (i:=x) (rest:=rest) (by simp[ho,hwant]);rw[this,ho];rfl
  .rw[hdst]at hd;exact hI.N8 hx hs ho (λ_ _ e=>e) hd .skip
 |lZ o s ho hcs hl hw hm u hr hd=>
  obtain⟨o',ho',gu,hdst,vW,hgd⟩:=pI hcs;rw[ho]at ho';cases ho';have hwant:=Jr hgd hI.act (λt ht=>hI.Js hx hs hpre ho ht) hw;obtain⟨r,w',β',v',g1,g2,g3,g4,g5⟩:=Ub (ρ':=Act.eval ⟨tm,df⟩) gu (λy hy=>hI.act.eval hGβ (vW y hy) (Ul ho y hy)) hr hI.wr;have hnd:∀c,o.op≠.defer c:=by
   exact dg
  have hle:=g5.le hI.wr.dom;refine⟨β',w',qa tm o.dst v',Jq ho hwant (.inr hnd) g1 g2,hle,hI.uB,hsub,N9,⟨al,keep β' λj hj hjs hjm=>?_,Oa⟩,?_,g4,hI.uC.trans g5⟩
  .obtain⟨t,h1,h2,h3⟩:=hjm;cases hp j hj (xm j hjs).1 with
   |skip o2 s2 _ hs2 _ hw2 _=>rw[h1]at hs2;cases hs2;rw[h3]at hw2;cases hw2
   |lZ o2 s2 _ hs2 _ _ hm2 _ _ _=>rw[h1]at hs2;cases hs2;rw[h2]at hm2;cases hm2
   |make o2 s2 _ _ _ _ _ _ _ _ _ hlt _ _ _=>exact g5.agree _ hlt
  .rw[hdst]at hd;exact hI.N8 hx hs ho hle hd g3
 |make o s ho hcs hl hw hm f ob hr hlo hlt hbn hget hd=>
  obtain⟨o',ho',gu,hdst,vW,hgd⟩:=pI hcs;rw[ho]at ho';cases ho';have hwant:=Jr hgd hI.act (λt ht=>hI.Js hx hs hpre ho ht) hw;obtain⟨v',o',g,m1,m2,m3⟩:=Ua (ρ':=Act.eval ⟨tm,df⟩) (w:=w) hm gu (λy hy=>hI.act.eval hGβ (vW y hy) (Ul ho y hy)) hr;have hle:=aD.vQ (β:=β) g hbn;obtain⟨m4,m5⟩:=m3 (al x) _ hle (aD.aan _ _ _);have hnd:∀c,o.op≠.defer c:=by
   exact dg
  refine⟨β.add (al x) g,_,qa tm o.dst v',Jq ho hwant (.inr hnd) m1 (.inl rfl),hle,hI.uB,hsub,N9,⟨al,keep _ λj hj hjs hjm=>?_,Oa⟩,?_,hI.wr.NY hbn hlt hget m2 m5,hI.uC.NY hlo m2 o'⟩
  .exact aD.lY _ _ (hal j x hj hx (xm j hjs).1 hs (xm j hjs).2 hjm ⟨s,hcs,hm,hw⟩)
  .rw[hdst]at hd;exact hI.N8 hx hs ho hle hd m4
def Inv.flush(hG:GOK P β0)(hdom:∀i g,β0 i=some g->i<h0.next){i:Nat}(hstep:vU ops bO hv done i)(kw:hv i=true)(adX:∀x,x<ops.size->x∉done->x≠i->hv x=true->bO x i=true)
 (b:Frame) (k:ae Item) (cs:ae Frame):∀(ρ S:ae Nat) (β:aD) (w:World) (tm:Array ah),Inv P ops hv bO β0 h0 w0 done S β a h w tm df->vV ops bO S ρ->
 ∃S' β' w' tm' ρ',Steps P (lone (fr b tm df (.inRegion ops ρ::k)) cs w) (lone (fr b tm' df (.inRegion ops (i::ρ')::k)) cs w')/\β.le β'/\Inv P ops hv bO β0 h0 w0 done S' β' a h w' tm' df/\vV ops bO S' (i::ρ'):=by
 intro ρ;induction ρ with
 |nil=>
  intro S β w tm hI hR
  exfalso
  by_cases hp:∃x∈done,x∉S
  .obtain⟨x,h1,h2,h3⟩:=Ui ops bO hv done S hI.uB hp;obtain⟨d,hd⟩:=NZ hI.uB h1;obtain⟨j,h4,h5⟩:=hR x hd.lt h2;exact h5 (h3 j h4)
  .have hall:∀x∈done,x∈S:=λx hx=>Decidable.byContradiction λhn=>hp ⟨x,hx,hn⟩;obtain⟨j,h4,h5⟩:=hR i hstep.lt λhc=>hstep.new (hI.sub i hc);exact h5 (hall j (hstep.pre j h4))
 |cons x ρ ih=>
  intro S β w tm hI hR;by_cases e:x=i
  .subst e;exact⟨S,β,w,tm,ρ,Steps.refl P _,λ_ _ e=>e,hI,hR⟩
  .obtain⟨r1,r2,r3,r4⟩:=hR;have hx:x∈done:=by
    refine Decidable.byContradiction λhn=>?_;cases hh:hv x with
    |false=>
     obtain⟨j,h1,h2⟩:=(hstep.heavy kw).2 x r1 hh hn;exact h2 (hI.sub j (r3 j h1))
    |true=>exact hstep.new (hI.sub i (r3 i (adX x r1 hn e hh)))
   obtain⟨β',w',tm',s1,s0,s2⟩:=hI.take hG hdom hx r2 r3 b k cs ρ;obtain⟨S',β'',w'',Ob,ρ',t1,t0,t2,t3⟩:=ih _ _ _ _ s2 r4;exact⟨S',β'',w'',Ob,ρ',.head s1 t1,λ_ _ e=>t0 _ _ (s0 _ _ e),t2,t3⟩
def Inv.finish(hG:GOK P β0)(hdom:∀i g,β0 i=some g->i<h0.next)(hall:∀i,i<ops.size->i∈done)
 (b:Frame) (k:ae Item) (cs:ae Frame):∀(ρ S:ae Nat) (β:aD) (w:World) (tm:Array ah),Inv P ops hv bO β0 h0 w0 done S β a h w tm df->vV ops bO S ρ->
 ∃β' w' tm',Steps P (lone (fr b tm df (.inRegion ops ρ::k)) cs w) (lone (fr b tm' df k) cs w')/\β.le β'/\AR β' none' a tm' df/\WR P β' h w'/\Eff β0 h0 w0 β' h w':=by
 intro ρ;induction ρ with
 |nil=>
  intro S β w tm hI hR;have hS:∀x∈done,x∈S:=λx hx=>Decidable.byContradiction λhn=>by
   obtain⟨y,h1,h2,h3⟩:=Ui ops bO hv done S hI.uB ⟨x,hx,hn⟩;obtain⟨d,hd⟩:=NZ hI.uB h1;obtain⟨j,h4,h5⟩:=hR y hd.lt h2;exact h5 (h3 j h4)
  refine⟨β,w,tm,.one adM,λ_ _ e=>e,⟨hI.act.size,λi _=>hI.act.tmps i ?_,hI.act.out,hI.act.defers⟩,hI.wr,hI.uC⟩;rintro⟨y,p,hy,hys,_⟩;exact hys (hS y hy)
 |cons x ρ ih=>
  intro S β w tm hI hR;obtain⟨r1,r2,r3,r4⟩:=hR;obtain⟨β',w',tm',s1,s0,s2⟩:=hI.take hG hdom (hall x r1) r2 r3 b k cs ρ;obtain⟨β'',w'',Ob,t1,t0,t2⟩:=ih _ _ _ _ s2 r4;exact⟨β'',w'',Ob,.head s1 t1,λ_ _ e=>t0 _ _ (s0 _ _ e),t2⟩
end
end Go.Ideal
namespace Go.Ideal
variable {P:Program} {ops:Array Oper} {bO:Nat->Nat->Bool} {hv:Nat->Bool}
def uD(a:aU)(d:aj Tmp)(v:ah)(t:Nat):dD (a.put d v).tmps t=if d=some t/\t<a.n then v else dD a.tmps t:=by
 cases d with
 |none=>simp[aU.put]
 |some d=>
  show dD (a.set d v).tmps t=_;unfold aU.set;cases hb:Nat.blt d a.n with
  |true=>
   have hlt: @LT.lt Nat _ d a.n:=r7
   show dD (a.tmps.set d (some v)) t=_;rw[DD];by_cases e:t=d
   .subst e;rw[if_pos rfl,if_pos ⟨rfl,hlt⟩]
   .rw[if_neg e,if_neg];rintro⟨h1,_⟩;simp at h1;exact e h1.symm
  |false=>
   show dD a.tmps t=_;rw[if_neg];rintro⟨h1,h2⟩;simp only[aI]at h1;subst h1;have:Nat.blt d a.n=true:=by simpa[uj]using h2
   rw[this]at hb;cases hb
def qF(a:aU)(d:aj Tmp)(v:ah):(a.put d v).n=a.n:=by
 cases d with
 |none=>rfl
 |some d=>show(a.set d v).n=_;unfold aU.set;cases Nat.blt d a.n<;>rfl
def put_defers(a:aU)(d:aj Tmp)(v:ah):(a.put d v).defers=a.defers:=by
 cases d with
 |none=>rfl
 |some d=>show(a.set d v).defers=_;unfold aU.set;cases Nat.blt d a.n<;>rfl
def vX(a:aU)(d:aj Tmp)(v:ah):(a.put d v).pm=a.pm:=by
 cases d with
 |none=>rfl
 |some d=>show(a.set d v).pm=_;unfold aU.set;cases Nat.blt d a.n<;>rfl
def vY(a:aU)(d:aj Tmp)(v:ah):(a.put d v).ro=a.ro:=by
 cases d with
 |none=>rfl
 |some d=>show(a.set d v).ro=_;unfold aU.set;cases Nat.blt d a.n<;>rfl
def DZ{a a2:aU}{o:Oper}{s:iy}{i:Nat}(hi:ops[i]? =some o)(hs:kG P ops i=some s)(h:∀t,t∈looks ops o->dD a2.tmps t=dD a.tmps t):
 (∀x∈o.op.operands,a2.eval x=a.eval x)/\a2.wants s.guard=a.wants s.guard:=by
 obtain⟨o',ho',_,_,_,hg⟩:=pI hs;rw[hi]at ho';cases ho';refine⟨λx hx=>?_,?_⟩
 .cases x with
  |tmp t=>exact h t (Gi (.inl ⟨_,hx,rfl⟩))
  |const v=>rfl
  |global g=>rfl
  |func f=>rfl
 .rcases hg with⟨_,h2⟩|⟨j,want,t,h1,h2,h3⟩
  .rw[h2];rfl
  .rw[h3];simp only[aU.wants,h t (Gi (.inr ⟨j,want,h1,h2⟩))]
section
variable {β0:aD} {h0:IH} {w0:World} {done S:ae Nat} {β:aD} {a:aU} {h:IH} {w:World} {tm:Array ah} {df:ae Deferred}
def Inv.sync(hI:Inv P ops hv bO β0 h0 w0 done S β a h w tm df){i:Nat}(hstep:vU ops bO hv done i){o:Oper}(ho:ops[i]? =some o)(hpre:∀j,bO i j=true->j∈S)
 {β2:aD} {h2:IH} {w2:World} (heff:Eff β h w β2 h2 w2) (hwr:WR P β2 h2 w2) {v v':ah} (hvv:VR β2 v v') {a2:aU} (ha2:∀t,dD a2.tmps t=dD (a.put o.dst v).tmps t) (hn:a2.n=a.n) {df2:ae Deferred} (hdf:uA β2 a2.defers df2)
 (hre:h2=h\/∀j∈done,j∉S->∀t,kG P ops j=some t->Dv t.op=true->a2.wants t.guard≠some false->∃u h3,t.op.run P a2.eval h2=some (u,h3)/\∀d,t.dst=some d->dD a2.tmps d=u):
 Inv P ops hv bO β0 h0 w0 (i::done) (i::S) β2 a2 h2 w2 (qa tm o.dst v') df2:=by
 have hle:=heff.le hI.wr.dom;obtain⟨al,hp,hal⟩:=hI.pend;have xm:∀y,y∈i::done->y∉i::S->y∈done/\y∉S/\y≠i:=λy hy hys=>by
  have hne:y≠i:=λe=>hys s7;exact⟨(bN.1 hy).resolve_left hne,λhc=>hys (dO _ hc),hne⟩
 have free:∀j∈done,j∉S->∀p,ops[j]? =some p->(∀t∈looks ops p,o.dst≠some t)/\∀t,p.dst=some t->o.dst≠some t:=λj hj hjs p fF=>
  ⟨λt ht hd=>hjs (hpre j (hstep.put o t ho hd j hj p fF (.inl ht)).2),λt ht hd=>hjs (hpre j (hstep.put o t ho hd j hj p fF (.inr ht)).2)⟩
 have qG:∀t,o.dst≠some t->dD a2.tmps t=dD a.tmps t:=λt ht=>by rw[ha2,uD,if_neg (λhc=>ht hc.1)]
 have same:∀j∈done,j∉S->∀p s,ops[j]? =some p->kG P ops j=some s->(∀x∈p.op.operands,a2.eval x=a.eval x)/\a2.wants s.guard=a.wants s.guard:=λj hj hjs p s fF hsj=>
  DZ fF hsj λt ht=>qG t ((free j hj hjs p fF).1 t ht)
 have Ce:∀j∈done,j∉S->(∃s,kG P ops j=some s/\s.op.makes=true/\a2.wants s.guard=some true)->∃s,kG P ops j=some s/\s.op.makes=true/\a.wants s.guard=some true:=λj hj hjs ⟨s,q1,q2,q3⟩=>by
  obtain⟨p,fF,_⟩:=pI q1;exact⟨s,q1,q2,by rw[<- (same j hj hjs p s fF q1).2];exact q3⟩
 refine⟨⟨hstep,hI.uB⟩,?_,?_,⟨al,?_,?_⟩,?_,hwr,hI.uC.trans heff⟩
 .intro x hx;rcases bN.1 hx with e|hx
  .simp[e]
  .exact dO _ (hI.sub x hx)
 .intro x hx hh;rcases bN.1 hx with e|hx
  .simp[e]
  .exact dO _ (hI.Gh x hx hh)
 .intro j hj hjs;obtain⟨c1,c2,c3⟩:=xm j hj hjs;cases hp j c1 c2 with
  |skip p s fF hs hl hw hd=>
   obtain⟨f1,f2⟩:=free j c1 c2 p fF;obtain⟨_,pJ,_,hdst,_⟩:=pI hs;rw[fF]at pJ;cases pJ;refine .skip p s fF hs hl (by rw[(same j c1 c2 p s fF hs).2];exact hw) λd hdd=>?_;rw[qG d (f2 d tj),hn];exact hd d hdd
  |lZ p s fF hs hl hw hm u hr hd=>
   obtain⟨f1,f2⟩:=free j c1 c2 p fF;obtain⟨_,pJ,gu,hdst,_⟩:=pI hs;rw[fF]at pJ;cases pJ;obtain⟨e1,e2⟩:=same j c1 c2 p s fF hs;have hcg:∀hh:IH,s.op.run P a2.eval hh=s.op.run P a.eval hh:=λhh=>(DX gu e1 hh).1;cases hrd:Dv s.op with
   |false=>
    have hr2:s.op.run P a2.eval h2=some (u,h2):=by rw[hcg];exact adT hl hm hrd hr h2
    refine .lZ p s fF hs hl sg hm u hr2 λd hdd=>?_;rw[qG d (f2 d tj),hn];exact hd d hdd
   |true=>
    rcases hre with rfl|hre
    .refine .lZ p s fF hs hl sg hm u (by rw[hcg];exact hr) λd hdd=>?_;rw[qG d (f2 d tj),hn];exact hd d hdd
    obtain⟨u2,h3,g1,g2⟩:=hre j c1 c2 s hs hrd (by rw[e2,hw];simp);have h3e:=Uf hl hm g1;subst h3e;exact .lZ p s fF hs hl sg hm u2 g1 λd hdd=>.inl (g2 d hdd)
  |make p s fF hs hl hw hm f ob hr hlo hlt hb hg hd=>
   obtain⟨f1,f2⟩:=free j c1 c2 p fF;obtain⟨_,pJ,gu,hdst,_⟩:=pI hs;rw[fF]at pJ;cases pJ;obtain⟨e1,e2⟩:=same j c1 c2 p s fF hs;have hb2:β2 (al j)=none:=by rw[heff.agree _ hlt];exact hb
   have hg2:h2.get (al j)=some ob:=by rw[heff.hid _ hlt hb];exact hg
   refine .make p s fF hs hl sg hm f ob (by rw[(DX gu e1 h).2];exact hr) hlo (nC hlt heff.next) hb2 hg2 λd hdd=>?_;rw[qG d (f2 d tj),hn];exact hd d hdd
 .intro x y hx hy hxs hys hne mx my;obtain⟨c1,c2,_⟩:=xm x hx hxs;obtain⟨d1,d2,_⟩:=xm y hy hys;exact hal x y c1 d1 c2 d2 hne (Ce x c1 c2 mx) (Ce y d1 d2 my)
 .have hA:=hI.act;refine⟨?_,λt ht=>?_,λt ht=>?_,hdf⟩
  .rw[hn,<- hA.size];unfold qa;split<;>simp
  .have hnw:¬waits ops done S t:=by
    rintro⟨y,p,hy,hys,hp',lD⟩;refine ht ⟨y,p,dO _ hy,?_,hp',lD⟩;intro hc;rcases bN.1 hc with e|hc
    .subst e;exact hstep.new hy
    .exact hys hc
   have nW:=(hA.tmps t hnw).mono hle;rw[ha2,uD];cases hd2:o.dst with
   |none=>
    rw[if_neg qe];exact nW
   |some d=>
    show VR β2 _ ((tm.setIfInBounds d v').getD t undef);have hsz:=hA.size;by_cases hdt:d=t
    .subst hdt;by_cases hlt: @LT.lt Nat _ d a.n
     .rw[if_pos ⟨rfl,hlt⟩,Jn tm d v' d p0,if_pos rfl];exact hvv
     .rw[if_neg (λhc=>hlt hc.2)];rw[hA.out d p0];exact .dH _
    .rw[if_neg (λhc=>hdt (by simpa using hc.1))];rw[uk,IK hdt,<- uk];exact nW
  .rw[ha2,uD,if_neg (λhc=>by have:=hc.2;omega)];exact hA.out t p0
def Inv.ahead(hI:Inv P ops hv bO β0 h0 w0 done S β a h w tm df){i:Nat}(hstep:vU ops bO hv done i)(hlt:hv i=false){o:Oper}{s:iy}(ho:ops[i]? =some o)(hs:kG P ops i=some s)(hl:heavy s.op=false)
 {v:ah} {h2:IH} (hcase:(a.wants s.guard=some false/\v=um/\h2=h)\/(a.wants s.guard=some true/\s.op.run P a.eval h=some (v,h2))):
 Inv P ops hv bO β0 h0 w0 (i::done) S β (a.put s.dst v) h2 w tm df:=by
 obtain⟨al,hp,hal⟩:=hI.pend;obtain⟨o',ho',gu,hdst,_,_⟩:=pI hs;rw[ho]at ho';cases ho';have uE:i∉S:=λhc=>hstep.new (hI.sub i hc);have qG:∀t,o.dst≠some t->dD (a.put s.dst v).tmps t=dD a.tmps t:=λt ht=>by rw[uD,hdst,if_neg (λhc=>ht hc.1)]
 have free:∀j∈done,∀p,ops[j]? =some p->(∀t∈looks ops p,o.dst≠some t)/\∀t,p.dst=some t->o.dst≠some t:=λj hj p fF=>
  ⟨λt ht hd=>(by have:=(hstep.put o t ho hd j hj p fF (.inl ht)).1;rw[hlt]at this;cases this),λt ht hd=>(by have:=(hstep.put o t ho hd j hj p fF (.inr ht)).1;rw[hlt]at this;cases this)⟩
 have own:∀t∈looks ops o,o.dst≠some t:=λt ht hd=>hstep.own hlt o t ho hd ht;have Oc:∀d,s.dst=some d->dD (a.put s.dst v).tmps d=v\/(a.put s.dst v).n<=d:=λd hd=>by
  rw[uD,qF,hd];by_cases hh: @LT.lt Nat _ d a.n
  .left;rw[if_pos ⟨rfl,hh⟩]
  .right;exact Nat.le_of_not_lt hh
 have hheap:(h2=h/\((a.wants s.guard=some true)->s.op.makes=false))\/(a.wants s.guard=some true/\s.op.makes=true/\∃f ob,s.op.alloc a.eval=some (f,ob)/\v=f h.next/\h2=h.new ob):=by
  rcases hcase with⟨q1,_,q3⟩|⟨q1,q2⟩
  .exact .inl ⟨q3,λhc=>by rw[q1]at hc;cases hc⟩
  .cases hm:s.op.makes with
   |false=>exact .inl ⟨Uf hl hm q2,λ_=>rfl⟩
   |true=>
    rw[aF.T9 hm]at q2;obtain⟨f,ob,e1,e2,e3⟩:=TZ q2;exact .inr ⟨q1,rfl,f,ob,e1,e2,e3⟩
 have hsub:∀x ob,h.get x=some ob->h2.get x=some ob:=λx ob hx=>by
  rcases hheap with⟨e,_⟩|⟨_,_,f,Od,_,_,e⟩
  .rw[e];exact hx
  .rw[e];exact adS hI.wr.live _ _ _ hx
 have hnext:h.next<=h2.next:=by
  rcases hheap with⟨e,_⟩|⟨_,_,f,Od,_,_,e⟩
  .rw[e];exact bz _
  .rw[e];exact zI _
 have Um:WR P β h2 w/\Eff β h w β h2 w:=by
  rcases hheap with⟨e,_⟩|⟨_,_,f,Od,_,_,e⟩
  .rw[e];exact⟨hI.wr,Eff.refl _ _ _ hI.wr.dom⟩
  .rw[e];exact hI.wr.hide Od
 have hne:∀j∈done,j≠i:=λj hj e=>hstep.new (e▸hj);have Ce:∀j∈done,(∃s',kG P ops j=some s'/\s'.op.makes=true/\(a.put s.dst v).wants s'.guard=some true)->∃s',kG P ops j=some s'/\s'.op.makes=true/\a.wants s'.guard=some true:=λj hj ⟨s',q1,q2,q3⟩=>by
  obtain⟨p,fF,_⟩:=pI q1;exact⟨s',q1,q2,by rw[<- (DZ fF q1 λt ht=>qG t ((free j hj p fF).1 t ht)).2];exact q3⟩
 have Un:∀j∈done,j∉S->(∃s',kG P ops j=some s'/\s'.op.makes=true/\a.wants s'.guard=some true)->al j<h.next:=λj hj hjs ⟨s',q1,q2,q3⟩=>by
  cases hp j hj hjs with
  |skip p s2 _ hs2 _ hw2 _=>rw[q1]at hs2;cases hs2;rw[q3]at hw2;cases hw2
  |lZ p s2 _ hs2 _ _ hm2 _ _ _=>rw[q1]at hs2;cases hs2;rw[q2]at hm2;cases hm2
  |make p s2 _ _ _ _ _ _ _ _ _ hlt2 _ _ _=>exact hlt2
 refine⟨⟨hstep,hI.uB⟩,λx hx=>dO _ (hI.sub x hx),?_,⟨λj=>if j=i then h.next else al j,?_,?_⟩,?_,Um.1,hI.uC.trans Um.2⟩
 .intro x hx hh;rcases bN.1 hx with e|hx
  .subst e;rw[hlt]at hh;cases hh
  .exact hI.Gh x hx hh
 .intro j hj hjs;rcases bN.1 hj with e|hj
  .subst e;obtain⟨e1,e2⟩:=DZ (a:=a) (a2:=a.put s.dst v) ho hs λt ht=>qG t (own t ht);rcases hheap with⟨e,hm⟩|⟨q1,q2,f,ob,q3,q4,q5⟩
   .rcases hcase with⟨q1,q2,q3⟩|⟨q1,q2⟩
    .refine .skip o s ho hs hl us λd hd=>?_;rw[<- q2];exact Oc d hd
    .subst e;exact .lZ o s ho hs hl us (hm q1) v (by rw[(DX gu e1 h2).1];exact q2) Oc
   .refine .make o s ho hs hl us q2 f ob (by rw[(DX gu e1 h2).2];exact q3) ?_ ?_ ?_ ?_ λd hd=>?_
    .rw[if_pos rfl];exact hI.uC.next
    .rw[if_pos rfl,q5];exact x9 _
    .rw[if_pos rfl];exact hI.wr.xk
    .rw[if_pos rfl,q5,IH.iM,if_pos rfl]
    .rw[if_pos rfl,<- q4];exact Oc d hd
  .have hji:=hne j hj;cases hp j hj hjs with
   |skip p s2 fF hs2 hl2 hw hd=>
    obtain⟨f1,f2⟩:=free j hj p fF;obtain⟨_,pJ,_,Gj,_⟩:=pI hs2;rw[fF]at pJ;cases pJ;obtain⟨e1,e2⟩:=DZ fF hs2 λt ht=>qG t (f1 t ht);refine .skip p s2 fF hs2 hl2 sg λd hdd=>?_;rw[qG d (f2 d uv),qF];exact hd d hdd
   |lZ p s2 fF hs2 hl2 hw hm u hr hd=>
    obtain⟨f1,f2⟩:=free j hj p fF;obtain⟨_,pJ,Oe,Gj,_⟩:=pI hs2;rw[fF]at pJ;cases pJ;obtain⟨e1,e2⟩:=DZ fF hs2 λt ht=>qG t (f1 t ht);refine .lZ p s2 fF hs2 hl2 sg hm u (by rw[(DX Oe e1 h2).1];exact adR hl2 hm hsub hr) λd hdd=>?_;rw[qG d (f2 d uv),qF];exact hd d hdd
   |make p s2 fF hs2 hl2 hw hm f ob hr hlo hlt2 hb hg hd=>
    obtain⟨f1,f2⟩:=free j hj p fF;obtain⟨_,pJ,Oe,Gj,_⟩:=pI hs2;rw[fF]at pJ;cases pJ;obtain⟨e1,e2⟩:=DZ fF hs2 λt ht=>qG t (f1 t ht);have Gl:(if j=i then h.next else al j)=al j:=if_neg hji;refine .make p s2 fF hs2 hl2 sg hm f ob (by rw[(DX Oe e1 h2).2];exact hr) (by rw[Gl];exact hlo) (by rw[Gl];exact nC hlt2 hnext) (by rw[Gl];exact hb) (by rw[Gl];exact hsub _ _ hg) λd hdd=>?_;rw[qG d (f2 d uv),qF,Gl];exact hd d hdd
 .intro x y hx hy hxs hys hxy mx my;show(if x=i then h.next else al x)≠(if y=i then h.next else al y);rcases bN.1 hx with ex|hx
  .rcases bN.1 hy with ey|hy
   .exact absurd (ex.trans ey.symm) hxy
   .rw[if_pos ex,if_neg (hne y hy)];have:=Un y hy hys (Ce y hy my);omega
  .rcases bN.1 hy with ey|hy
   .rw[if_neg (hne x hx),if_pos ey];have:=Un x hx hxs (Ce x hx mx);omega
   .rw[if_neg (hne x hx),if_neg (hne y hy)];exact hal x y hx hy hxs hys hxy (Ce x hx mx) (Ce y hy my)
 .have hA:=hI.act;refine⟨by rw[qF];exact hA.size,λt ht=>?_,λt ht=>?_,by rw[put_defers];exact hA.defers⟩
  .have hdt:o.dst≠some t:=λhd=>ht ⟨i,o,qe,uE,ho,hd⟩;rw[qG t hdt];refine hA.tmps t ?_;rintro⟨y,p,hy,hys,hp',lD⟩;exact ht ⟨y,p,dO _ hy,hys,hp',lD⟩
  .rw[qF]at ht;rw[uD,if_neg (λhc=>by have:=hc.2;omega)];exact hA.out t ht
end
end Go.Ideal
namespace Go.Ideal
variable {P:Program}
def kindOf:aj FrameMode->CallKind
 |none=>.normal
 |some _=>.deferred
structure CX(P:Program)(β:aD)(pm:Option FrameMode)(ro:Option Nat)(b:Frame)(cs:List Frame):Prop where
 fn:∃f,P.funcs[b.fn]? =some f
 round:(ro=none/\b.roundOf=none)\/∃l g,ro=some l/\β l=some g/\b.roundOf=some g.b
 kind:b.kind=kindOf pm
 mode:∀m,pm=some m->∃c rest,cs=c::rest/\MR β m c.mode
inductive oI(β':aD):Option FrameMode->Option FrameMode->List Frame->List Frame->Prop
 |none (cs:List Frame):oI β' none none cs cs
 |some (m m':FrameMode) (c:Frame) (rest:List Frame) (mr:FrameMode) (h:MR β' m' mr):oI β' (some m) (some m') (c::rest) ({c with mode:=mr}::rest)
variable{β β':aD}
def oI.mono(h:β.le β'){p q:aj FrameMode}{cs cs':ae Frame}(k:oI β p q cs cs'):oI β' p q cs cs':=by
 cases k with
 |none cs=>exact .none cs
 |some m m' c rest mr hm=>exact .some m m' c rest mr (hm.mono h)
variable{cs cs':ae Frame}
def oI.trans{p q r:aj FrameMode}{cs'':ae Frame}(k:oI β p q cs cs')(k2:oI β' q r cs' cs''):oI β' p r cs cs'':=by
 cases k with
 |none cs=>exact k2
 |some m m' c rest mr hm=>
  cases k2 with
  |some _ m'' _ _ Og hm'=>exact .some m m'' c rest Og hm'
variable{b:Frame}
def CX.start{pm:aj FrameMode}{ro:aj Nat}(k:CX P β pm ro b cs):oI β pm pm cs cs:=by
 cases pm with
 |none=>exact .none cs
 |some m=>
  obtain⟨c,rest,rfl,hm⟩:=k.mode m rfl;have:=oI.some (β':=β) m m c rest c.mode hm;exact this
def CX.after(hle:β.le β'){pm pm':aj FrameMode}{ro:aj Nat}{b:Frame}{cs cs':ae Frame}(k:CX P β pm ro b cs)(hc:oI β' pm pm' cs cs'):CX P β' pm' ro b cs' where
 fn:=k.fn
 round:=by
  rcases k.round with h|⟨l,g,h1,h2,h3⟩
  .exact .inl h
  .exact .inr ⟨l,g,h1,hle _ _ h2,h3⟩
 kind:=by
  have:=k.kind;cases hc with
  |none=>exact this
  |some=>exact this
 mode m hm:=by
  cases hc with
  |none=>cases hm
  |some m0 m' c rest mr h=>cases hm;exact⟨_,rest,rfl,h⟩
def Jt(P:Program)(M:Machine)(b:Frame)(k:ae Item)(β':aD)(tm':Array ah)(fV:ae Deferred)(cs':ae Frame)(w':World):Out->Prop
 | .normal=>Steps P M (lone (fr b tm' fV k) cs' w')
 | .exit id=>∃todo,exitTo id todo=exitTo id k/\Steps P M (lone (fr b tm' fV (.code (.exit id)::todo)) cs' w')
 | .ret=>∃todo,Steps P M (lone (fr b tm' fV (.code .ret::todo)) cs' w')
 | .panic ch=>∃todo ch',pG β' ch ch'/\Steps P M (lone {fr b tm' fV todo with mode:=.panicking ch'} cs' w')
variable{M M':Machine}{k:ae Item}
def Jt.of_steps{tm':Array ah}{fV:ae Deferred}{w':World}{o:Out}(h:Steps P M M')(k2:Jt P M' b k β' tm' fV cs' w' o):Jt P M b k β' tm' fV cs' w' o:=by
 cases o with
 |normal=>exact h.trans k2
 |exit id=>obtain⟨todo,h1,h2⟩:=k2;exact⟨todo,h1,h.trans h2⟩
 |ret=>obtain⟨todo,h2⟩:=k2;exact⟨todo,h.trans h2⟩
 |panic ch=>obtain⟨todo,ch',h1,h2⟩:=k2;exact⟨todo,ch',h1,h.trans h2⟩
def Post(P:Program)(β0:aD)(h0:IH)(w0:World)(jW:aj FrameMode)(jr:aj Nat)(b:Frame)(cs0:ae Frame)(k:ae Item)(K:KO)(M:Machine):Prop:=
 ∃o a' h' β' w' tm' fV cs',K o a' h'/\WR P β' h' w'/\Eff β0 h0 w0 β' h' w'/\AR β' none' a' tm' fV/\oI β' jW a'.pm cs0 cs'/\a'.ro=jr/\Jt P M b k β' tm' fV cs' w' o
def Post.of_steps{β0:aD}{h0:IH}{w0:World}{jW:aj FrameMode}{jr:aj Nat}{cs0:ae Frame}{K:KO}(h:Steps P M M')(p:Post P β0 h0 w0 jW jr b cs0 k K M'):Post P β0 h0 w0 jW jr b cs0 k K M:=by
 obtain⟨o,a',h',β',w',tm',fV,cs',q1,q2,q3,q4,q5,q6,q7⟩:=p;exact⟨o,a',h',β',w',tm',fV,cs',q1,q2,q3,q4,q5,q6,.of_steps h q7⟩
def Oh(code:Code)(it:Item):Prop:=it=.code code\/∃body,code=.loop body/\it=.inLoop body
def l5(P:Program)(c:cK)(a:aU)(h:IH)(K:KO):Prop:=
 ∀code it,compile P code=c->Oh code it->∀β w b tm df k cs,GOK P β->WR P β h w->AR β none' a tm df->CX P β a.pm a.ro b cs->
  Post P β h w a.pm a.ro b cs k K (lone (fr b tm df (it::k)) cs w)
def oJ(P:Program)(ds:ae Tmp)(l:ae bJ)(a:aU)(h:IH)(K:KO):Prop:=
 ∀ops bO hv rest done S,Aj P ops bO hv rest done l->(∀(i:Nat) o d,ops[i]? =some o->o.dst=some d->d∈ds)->
  ∀β0 h0 w0 jW jr cs0 β w b tm df k cs ρ,GOK P β0->(∀i g,β0 i=some g->i<h0.next)->CX P β0 jW jr b cs0->Inv P ops hv bO β0 h0 w0 done S β a h w tm df->vV ops bO S ρ->
  oI β jW a.pm cs0 cs->a.ro=jr->Post P β0 h0 w0 jW jr b cs0 k K (lone (fr b tm df (.inRegion ops ρ::k)) cs w)
inductive RR(β:aD):iL->Ending->Prop
 |ok {v v':Value} (h:VR β v v'):RR β (.ok v) (.returned v')
 |fD {ch ch':List PanicEntry} (h:pG β ch ch'):RR β (.fD ch) (.panicked ch')
def entry(P:Program)(k:CallKind):Next->aj Frame
 | .enter f args=>some (Frame.enter P f args k)
 | .round l f tmps x y=>some (Frame.round l f tmps x y k)
 |_=>none
def recv(c:Frame):Ending->Frame
 | .returned v=>c.finish v
 | .panicked ch=>c.raise ch
 | .outgrown=>c
def kI(P:Program)(q:aX)(h:IH)(K:KR):Prop:=
 ∀β w fn' args' cap',GOK P β->WR P β h w->FR β q.fn fn'->aQ β q.args args'->aQ β q.captured cap'->
  ∃nx F0,(invoke (.fn fn' ⟨cap'⟩) ⟨args'⟩).run P w=.ok nx w/\entry P (kindOf q.pm) nx=some F0/\
   ∀cs0,(∀m,q.pm=some m->∃c rest,cs0=c::rest/\MR β m c.mode)->∃r pm' h' β' w' r' cs1,K r pm' h'/\WR P β' h' w'/\Eff β h w β' h' w'/\RR β' r r'/\oI β' q.pm pm' cs0 cs1/\
    ((∃f args F1,nx=.enter f args/\Steps P (lone F0 cs0 w) (lone F1 cs1 w')/\F1.fn=f/\F1.kind=kindOf q.pm/\F1.going P w' r')\/
     ((q.pm=none/\∃l,q.fn=.yield l)/\∀c rest,cs1=c::rest->Steps P (lone F0 cs0 w) (lone (recv c r') rest w')))
def yJ(P:Program)(cf:gK)(ts:T ah)(ds:ae Deferred)(m:FrameMode)(h:IH)(K:iL->IH->Prop):Prop:=
 ∀β w (F:Frame) cs fn,GOK P β->WR P β h w->MR β m F.mode->uA β ds F.defers->(∀i,VR β (dD ts i) (F.tmps.getD i undef))->P.funcs[F.fn]? =some fn->vJ P fn=some cf->
  ∃r h' β' w' F1 r',K r h'/\WR P β' h' w'/\Eff β h w β' h' w'/\RR β' r r'/\Steps P (lone F cs w) (lone F1 cs w')/\F1.kind=F.kind/\F1.fn=F.fn/\F1.going P w' r'
def kI.call{q:aX}{h:IH}{K:KR}(hM:kI P q h K)(hq:q.pm=none){β:aD}{w:World}{fn':Fn}{args' cap':ae ah}(hG:GOK P β)(hW:WR P β h w)(hf:FR β q.fn fn')(ha:aQ β q.args args')(hc:aQ β q.captured cap'):
 ∃nx F0,(invoke (.fn fn' ⟨cap'⟩) ⟨args'⟩).run P w=.ok nx w/\entry P .normal nx=some F0/\
  ∀c rest,∃r h' β' w' r',K r none h'/\WR P β' h' w'/\Eff β h w β' h' w'/\RR β' r r'/\Steps P (lone F0 (c::rest) w) (lone (recv c r') rest w'):=by
 obtain⟨nx,F0,h1,h2,h3⟩:=hM β w fn' args' cap' hG hW hf ha hc;rw[hq]at h2;refine⟨nx,F0,h1,h2,λc rest=>?_⟩;obtain⟨r,pm',h',β',w',r',cs1,q1,q2,q3,q4,q5,q6⟩:=h3 (c::rest) (by rw[hq];simp);rw[hq]at q5;cases q5;refine⟨r,h',β',w',r',q1,q2,q3,q4,?_⟩;rcases q6 with⟨f,args,F1,_,s1,s2,s3,s4⟩|⟨_,s1⟩
 .rw[hq]at s3;refine s1.trans (.one ?_);cases q4 with
  |ok hv=>
   obtain⟨t1,t2,fn,t3,t4⟩:=s4;exact step_leave_returned ⟨t1,t2,s3,fn,t3,t4⟩
  |fD hch=>
   obtain⟨t1,t2,fn,t3⟩:=s4;exact step_leave_panicked ⟨t1,t2,fn,t3⟩
 .exact s1 c rest rfl
section
variable {ds:ae Tmp} {a:aU} {h:IH} {K:KO}
def adZ(hk:K .normal a h):oJ P ds [] a h K:=by
 intro ops bO hv rest done S hp hds β0 h0 w0 jW jr cs0 β w b tm df k cs ρ hG hdom hcx hI hR hcs hro;cases rest with
 |cons i rest=>obtain⟨_,s,re,r,hl,_⟩:=hp;cases hl
 |nil=>
  obtain⟨β',w',tm',s1,s0,s2,s3,s4⟩:=Inv.finish hG hdom hp.2 b k cs ρ S β w tm hI hR;exact⟨.normal,a,h,β',w',tm',df,cs,hk,s3,s4,s2,hcs.mono s0,hro,s1⟩
variable{s:bJ}{l:ae bJ}
def come{ops:Array Oper}{bO:Nat->Nat->Bool}{hv:Nat->Bool}{i:Nat}{rest done S:ae Nat}(hp:Aj P ops bO hv (i::rest) done (s::l))(kw:hv i=true)
 {β0:aD} {h0:IH} {w0:World} (hG:GOK P β0) (hdom:∀i g,β0 i=some g->i<h0.next) {β:aD} {w:World} {tm:Array ah} {df:ae Deferred} (hI:Inv P ops hv bO β0 h0 w0 done S β a h w tm df) {ρ:ae Nat} (hR:vV ops bO S ρ) (b:Frame) (k:ae Item) (cs:ae Frame):
 ∃o S' β' w' tm' ρ',ops[i]? =some o/\cop P o=some s.s.op/\s.s.dst=o.dst/\Steps P (lone (fr b tm df (.inRegion ops ρ::k)) cs w) (lone (fr b tm' df (.inRegion ops (i::ρ')::k)) cs w')/\β.le β'/\Inv P ops hv bO β0 h0 w0 done S' β' a h w' tm' df/\
  vV ops bO (i::S') ρ'/\vU ops bO hv done i/\Aj P ops bO hv rest (i::done) l/\(∀j,bO i j=true->j∈S')/\(∀r,a.wants s.s.guard=some r->Region.wanted o (yielded ops tm')=r)/\GOK P β'/\(∀x∈o.op.operands,VR β' (a.eval x) (Act.eval ⟨tm',df⟩ x))/\
  (∀j∈done,j∉S'->∀t,kG P ops j=some t->Dv t.op=true->t∈s.re):=by
 obtain⟨hstep,s1,re,r,hl,hcs,_,hre,mE⟩:=hp;simp only[Bw]at hl;obtain⟨rfl,rfl⟩:=hl;obtain⟨o,ho,gu,hdst,vW,hgd⟩:=pI hcs;obtain⟨S',β',w',tm',ρ',t1,t0,t2,t3⟩:=Inv.flush hG hdom hstep kw (λx hx hxd hxi DW=>adV P ops bO hv rest (i::done) l mE i qe kw x hx (by simp[hxd,hxi]) DW) b k cs ρ S β w tm hI hR;obtain⟨r1,r2,r3,r4⟩:=t3;have Uo:∀t,t∈looks ops o->¬waits ops done S' t:=by
  rintro t ht ⟨y,p,hy,hys,hp',lD⟩;exact hys (r3 y (hstep.look o ho y hy p hp' t lD ht))
 have hG':GOK P β':=hG.le (t2.uC.le hdom);refine⟨o,S',β',w',tm',ρ',ho,gu,hdst,t1,t0,t2,r4,hstep,mE,r3,λr hr=>Jr hgd t2.act Uo hr,hG',λx hx=>t2.act.eval hG' (vW x hx) λt ht=>Uo t (Gi (.inl ⟨x,hx,ht⟩)),?_⟩;intro j hj hjs t ht hrd;have hb:bO i j=false:=by
  cases hh:bO i j with
  |false=>rfl
  |true=>exact absurd (r3 j hh) hjs
 exact hre kw j hj (t2.N7 hj hjs) hb t ht hrd
def ad1(hw:a.wants s.s.guard=some false)(ih:oJ P ds l (a.put s.s.dst um) h K):oJ P ds (s::l) a h K:=by
 intro ops bO hv rest done S hp hds β0 h0 w0 jW jr cs0 β w b tm df k cs ρ hG hdom hcx hI hR hcs hro;cases rest with
 |nil=>cases hp.1
 |cons i rest=>
  cases kw:hv i with
  |false=>
   obtain⟨hstep,s1,re,r,hl,hc1,hlt,_,mE⟩:=hp;simp only[Bw]at hl;obtain⟨rfl,rfl⟩:=hl;obtain⟨o,ho,_⟩:=pI hc1;have hI2:=hI.ahead hstep kw ho hc1 (hlt kw) (.inl ⟨hw,rfl,rfl⟩);exact fb
  |true=>
   obtain⟨o,S',β',w',tm',ρ',ho,gu,hdst,t1,t0,t2,r4,hstep,mE,hpre,hwant,hG',sV,hrr⟩:=come hp kw hG hdom hI hR b k cs;have hs:=Ud (P:=P) (b:=b) (tm:=tm') (df:=df) (k:=k) (cs:=cs) (w:=w') (ops:=ops) (i:=i) (rest:=ρ') (by simp[ho,hwant _ hw]);rw[ho]at hs;simp only[gy]at hs;have hI2:=t2.sync hstep ho hpre (Eff.refl _ _ _ t2.wr.dom) t2.wr (v:=um) (v':=undef) .skip (a2:=a.put s.s.dst um) (λt=>by rw[hdst]) (qF _ _ _) (df2:=df) tn (.inl rfl);exact eo
def ad3(hw:a.wants s.s.guard=some true)(v:ah)(h':IH)(hr:s.s.op.run P a.eval h=some (v,h'))
 (hre:∀r∈s.re,(a.put s.s.dst v).wants r.guard≠some false->∃u h2,r.op.run P (a.put s.s.dst v).eval h'=some (u,h2)/\∀d,r.dst=some d->dD (a.put s.s.dst v).tmps d=u)
 (ih:oJ P ds l (a.put s.s.dst v) h' K):oJ P ds (s::l) a h K:=by
 intro ops bO hv rest done S hp hds β0 h0 w0 jW jr cs0 β w b tm df k cs ρ hG hdom hcx hI hR hcs hro;cases rest with
 |nil=>cases hp.1
 |cons i rest=>
  cases kw:hv i with
  |false=>
   obtain⟨hstep,s1,re,r,hl,hc1,hlt,_,mE⟩:=hp;simp only[Bw]at hl;obtain⟨rfl,rfl⟩:=hl;obtain⟨o,ho,_⟩:=pI hc1;have hI2:=hI.ahead hstep kw ho hc1 (hlt kw) (.inr ⟨hw,hr⟩);exact fb
  |true=>
   obtain⟨o,S',β',w',tm',ρ',ho,gu,hdst,t1,t0,t2,r4,hstep,mE,hpre,hwant,hG',sV,hrr⟩:=come hp kw hG hdom hI hR b k cs;obtain⟨nx,w2,β2,v',g1,g2,g3,g4,g5⟩:=Ub (ρ':=Act.eval ⟨tm',df⟩) gu sV hr t2.wr;have hnd:∀c,o.op≠.defer c:=by
    intro cl hcl;obtain⟨dd,op,ty,ps,af,gd⟩:=o;simp only at hcl;subst hcl;obtain⟨callee,args,ats⟩:=cl;cases callee with
    |value f=>simp only[cop,aI]at gu;rw[<- gu]at hr;cases hr
    |invoke x n=>simp[cop]at gu
    |builtin bb=>simp[cop]at gu
   have hs:=Jq (P:=P) (b:=b) (k:=k) (cs:=cs) (rest:=ρ') ho (hwant _ hw) (.inr hnd) g1 g2;have hle:=g5.le t2.wr.dom;have hI2:=t2.sync hstep ho hpre g5 g4 g3 (a2:=a.put s.s.dst v) (λt=>by rw[hdst]) (qF _ _ _) (df2:=df) xp
    (.inr λj hj hjs t ht hrd hwt=>hre t (hrr j hj hjs t ht hrd) hwt)
   exact .of_steps (t1.trans (.one hs)) (ih ops bO hv rest (i::done) (i::S') mE hds β0 h0 w0 jW jr cs0 β2 w2 b _ df k cs ρ' hG hdom hcx hI2 r4 xF sE)
end
end Go.Ideal
namespace Go.Ideal
section
variable (P:Program)
mutual
inductive EV:cK->aU->IH->KO->Prop
 |skip {a:aU} {h:IH} {K:KO} (hk:K .normal a h):EV .skip a h K
 |ops {ds:List Tmp} {l:List bJ} {a:aU} {h:IH} {K:KO} (ho:aK ds l a h K):EV (.ops ds l) a h K
 |seq {x y:cK} {a:aU} {h:IH} {K:KO} (M:KO) (h1:EV x a h M) (h2:∀a' h',M .normal a' h'->EV y a' h' K)
   (h3:∀o a' h',M o a' h'->o≠.normal->K o a' h'):EV (.seq x y) a h K
 |Oi {c:Operand} {x y:cK} {a:aU} {h:IH} {K:KO} (hc:a.eval c=.bool true) (h1:EV x a h K):EV (.cond c x y) a h K
 |Oj {c:Operand} {x y:cK} {a:aU} {h:IH} {K:KO} (hc:a.eval c=.bool false) (h1:EV y a h K):EV (.cond c x y) a h K
 |block {id:Nat} {c:cK} {a:aU} {h:IH} {K:KO} (M:KO) (h1:EV c a h M) (h2:∀o a' h',M o a' h'->K (inBlock id o) a' h'):EV (.block id c) a h K
 |loop {c:cK} {a:aU} {h:IH} {K:KO} (M:KO) (h1:EV c a h M) (h2:∀a' h',M .normal a' h'->EV (.loop c) a' h' K)
   (h3:∀o a' h',M o a' h'->o≠.normal->K o a' h'):EV (.loop c) a h K
 |scope {c:cK} {a:aU} {h:IH} {K:KO} (h1:EV c a h K):EV (.scope c) a h K
 |exit {id:Nat} {a:aU} {h:IH} {K:KO} (hk:K (.exit id) a h):EV (.exit id) a h K
 |ret {a:aU} {h:IH} {K:KO} (hk:K .ret a h):EV .ret a h K
 |rangeFunc {f:Operand} {ps:List Tmp} {assign body:cK} {a:aU} {h:IH} {K:KO} (fn:Fn) (first captured:List Value)
   (hf:a.eval f=.func fn ⟨first⟩ ⟨captured⟩) (a1:aU) (h1:IH) (r:Nat)
   (hr:(a.ro=none/\a1={a with defers:={target:=.collected h.next,args:= #[]}::a.defers}/\h1=h.new (.iU true)/\r=h.next)\/
     (∃l0 r0,a.ro=some l0/\a1=a/\h1=h/\h.get l0=some (.loop r0)/\r=r0.defers))
   (M:KR)
   (hc:CALL ⟨fn,kF first [.func (.yield h1.next) #[] #[]],captured,none⟩
     (h1.new (.loop {state:=.ready,pending:=none,tmps:=a.tmps,n:=a.n,params:=ps,assign,body,defers:=r})) M)
   (hok:∀v pm h2,M (.ok v) pm h2->∃lp,h2.get h1.next=some (.loop lp)/\lp.state≠.busy/\K (lp.pending.getD .normal) a1 (h2.set h1.next (.loop {lp with state:=.exhausted})))
   (jv:∀ch pm h2,M (.fD ch) pm h2->K (.panic ch) a1 h2):EV (.rangeFunc f ps assign body) a h K
 |weaken {c:cK} {a:aU} {h:IH} {K:KO} (a0:aU) (hw:∀i,dD a0.tmps i=dH\/dD a0.tmps i=dD a.tmps i)
   (hn:a0.n=a.n/\a0.defers=a.defers/\a0.pm=a.pm/\a0.ro=a.ro) (h1:EV c a0 h K):EV c a h K
inductive aK:List Tmp->List bJ->aU->IH->KO->Prop
 |nil {ds:List Tmp} {a:aU} {h:IH} {K:KO} (hk:K .normal a h):aK ds [] a h K
 |skip {ds:List Tmp} {s:bJ} {l:List bJ} {a:aU} {h:IH} {K:KO} (hw:a.wants s.s.guard=some false) (h1:aK ds l (a.put s.s.dst um) h K):aK ds (s::l) a h K
 |lZ {ds:List Tmp} {s:bJ} {l:List bJ} {a:aU} {h:IH} {K:KO} (hw:a.wants s.s.guard=some true) (v:Value) (h':IH) (hr:s.s.op.run P a.eval h=some (v,h'))
   (hs:∀r∈s.re,(a.put s.s.dst v).wants r.guard≠some false->∃u h2,r.op.run P (a.put s.s.dst v).eval h'=some (u,h2)/\∀d,r.dst=some d->dD (a.put s.s.dst v).tmps d=u)
   (h1:aK ds l (a.put s.s.dst v) h' K):aK ds (s::l) a h K
 |call {ds:List Tmp} {s:bJ} {l:List bJ} {a:aU} {h:IH} {K:KO} (hw:a.wants s.s.guard=some true) (q:aX) (hq:yD s.s.op a.eval=some q) (M:KR) (hc:CALL q h M)
   (hs:∀v pm h',M (.ok v) pm h'->∀r∈s.re,(a.put s.s.dst v).wants r.guard≠some false->∃u h2,r.op.run P (a.put s.s.dst v).eval h'=some (u,h2)/\∀d,r.dst=some d->dD (a.put s.s.dst v).tmps d=u)
   (hok:∀v pm h',M (.ok v) pm h'->aK ds l (a.put s.s.dst v) h' K)
   (jv:∀ch pm h',M (.fD ch) pm h'->K (.panic ch) (forget ds a) h'):aK ds (s::l) a h K
 |Uq {ds:List Tmp} {s:bJ} {l:List bJ} {a:aU} {h:IH} {K:KO} (hw:a.wants s.s.guard=some true) (ho:s.s.op=.recover) (hre:s.re=[]) (hm:a.pm=none) (hro:a.ro=none)
   (h1:aK ds l (a.put s.s.dst .nilIface) h K):aK ds (s::l) a h K
 |recoverD {ds:List Tmp} {s:bJ} {l:List bJ} {a:aU} {h:IH} {K:KO} (hw:a.wants s.s.guard=some true) (ho:s.s.op=.recover) (hre:s.re=[]) (m:FrameMode) (hm:a.pm=some m) (hro:a.ro=none)
   (h1:aK ds l ({a with pm:=some (jV m).2}.put s.s.dst (jV m).1) h K):aK ds (s::l) a h K
 |panic {ds:List Tmp} {s:bJ} {l:List bJ} {a:aU} {h:IH} {K:KO} (hw:a.wants s.s.guard=some true) (x:Operand) (ho:s.s.op=.panic x) (t:TypeId) (v:Value) (hx:a.eval x=.iface t v)
   (hk:K (.panic [{v:=.iface t v,recovered:=false}]) (forget ds a) h):aK ds (s::l) a h K
 |defer {ds:List Tmp} {s:bJ} {l:List bJ} {a:aU} {h:IH} {K:KO} (hw:a.wants s.s.guard=some true) (f:Operand) (args:List Operand) (ho:s.s.op=.dcall f args) (hre:s.re=[]) (hro:a.ro=none)
   (fn:Fn) (first captured:List Value) (hf:a.eval f=.func fn ⟨first⟩ ⟨captured⟩)
   (h1:aK ds l ({a with defers:={target:=.fn fn ⟨captured⟩,args:=⟨kF first (lq a.eval args)⟩}::a.defers}.put s.s.dst dH) h K):aK ds (s::l) a h K
 |next {ds:List Tmp} {s:bJ} {l:List bJ} {a:aU} {h:IH} {K:KO} (hw:a.wants s.s.guard=some true) (x:Operand) (ho:s.s.op=.yx x) (hre:s.re=[]) (alts:List (Value×IH))
   (ha:BQ (a.eval x) h=some alts) (h1:∀vh∈alts,aK ds l (a.put s.s.dst vh.1) vh.2 K):aK ds (s::l) a h K
inductive LEAVE:gK->T Value->List Deferred->FrameMode->IH->(iL->IH->Prop)->Prop
 |ret {cf:gK} {ts:T Value} {h:IH} {K:iL->IH->Prop} (v:Value) (hv:rH cf.results ts h=some v) (hk:K (.ok v) h):LEAVE cf ts [] .returning h K
 |fD {cf:gK} {ts:T Value} {h:IH} {K:iL->IH->Prop} (ch:List PanicEntry) (hk:K (.fD ch) h):LEAVE cf ts [] (.panicking ch) h K
 |coll {cf:gK} {ts:T Value} {args:Array Value} {ds:List Deferred} {m:FrameMode} {h:IH} {K:iL->IH->Prop} (hm:m≠.run) (r:Nat) (hr:h.get r=some (.iU true))
   (h1:LEAVE cf ts ds m (h.set r (.iU false)) K):LEAVE cf ts ({target:=.collected r,args}::ds) m h K
 |call {cf:gK} {ts:T Value} {fn:Fn} {captured args:List Value} {ds:List Deferred} {m:FrameMode} {h:IH} {K:iL->IH->Prop} (hm:m≠.run) (M:KR)
   (hc:CALL ⟨fn,args,captured,some m⟩ h M)
   (hpm:∀r pm h',M r pm h'->pm≠none)
   (hok:∀v m' h',M (.ok v) (some m') h'->LEAVE cf ts ds (Aa m') h' K)
   (jv:∀ch m' h',M (.fD ch) (some m') h'->LEAVE cf ts ds (Dw m' ch) h' K):LEAVE cf ts ({target:=.fn fn ⟨captured⟩,args:=⟨args⟩}::ds) m h K
inductive CALL:aX->IH->KR->Prop
 |enter {q:aX} {h:IH} {K:KR} (f:FuncId) (args:List Value) (ht:target P q=some (f,args)) (fn:Func) (hf:P.funcs[f]? =some fn) (cf:gK) (hcf:vJ P fn=some cf)
   (M:KO) (h1:EV cf.body (BP cf.ntmps args q.pm) h M)
   (h2:∀o a' h',M o a' h'->vK o≠none)
   (h3:∀o a' h' m,M o a' h'->vK o=some m->LEAVE cf a'.tmps a'.defers m h' λr h''=>K r a'.pm h''):CALL q h K
 |round {q:aX} {h:IH} {K:KR} (l:Nat) (hq:q.fn=.yield l) (hpm:q.pm=none) (r:oC) (hr:h.get l=some (.loop r)) (hargs:q.args.length=r.params.length)
   (M:KO) (h1:EV r.assign {n:=r.n,tmps:=vM r.n r.params q.args r.tmps,defers:=[],pm:=none,ro:=some l} h M)
   (h2:∀o a' h',M o a' h'->o=.normal/\∃r1,h'.get l=some (.loop r1)/\r1.state=.ready)
   (h3:∀a' h' r1,M .normal a' h'->h'.get l=some (.loop r1)->
     EV r.body a' (h'.set l (.loop {r1 with state:=.busy})) λo a'' h''=>∃r2,h''.get l=some (.loop r2)/\a''.defers=[]/\
      match o with
      | .panic ch=>K (.fD ch) none h''
      | .normal=>K (.ok (.bool true)) none (h''.set l (.loop {r2 with state:=.ready,pending:=none}))
      |o=>K (.ok (.bool false)) none (h''.set l (.loop {r2 with state:=.done,pending:=some o}))):CALL q h K
 |cut {q:aX} {h:IH} {K:KR} (cs:List Value) (n f:Nat) (hcs:gD cs=true) (hne:cs≠[]) (hf:f=0\/cs.length=n*f) (M:KR) (hc:CALL q {h with low:=h.next} M) (hq:q.pm=none)
   (h1:∀r pm h',M r pm h'->pm=none/\h'.low=h.next/\∃i o c,r=.ok (.slice (some ⟨i,o,some f⟩) n c)/\h.next<=i/\(f=0->c=n)/\h'.nR i o cs.length=some cs)
   (hk:K (.ok (.slice (some ⟨h.next,0,some f⟩) n n)) none (h.new (.cells cs))):CALL q h K
 |ji {q:aX} {h:IH} {K:KR} (M:KR) (hc:CALL q h M) (hk:∀r pm h',M r pm h'->K r pm h'):CALL q h K
 |forget {q:aX} {h:IH} {K:KR} (M:KR) (hc:CALL q h M)
   (hk:∀r pm h',M r pm h'->∃h'',h''.next=h'.next/\h''.low=h'.low/\(∀i,h''.get i=h'.get i\/(h.next<=i/\h''.get i=none))/\K r pm h''):CALL q h K
 |memo {q:aX} {h:IH} {K:KR} (h0:IH) (v:Value) (hv:bR v=true) (hq:q.pm=none) (hfn:oF h0.next (.func q.fn ⟨q.args⟩ ⟨q.captured⟩)=true)
   (hnext:h0.next<=h.next) (hgl:P.globals.size<=h0.next)
   (hsub:∀i o,h0.get i=some o->i<h0.next/\h.get i=some o/\FM h0.next o=true)
   (M:KR) (hc:CALL q h0 M) (h1:∀r pm h',M r pm h'->pm=none/\r=.ok v/\h'.low=h0.next)
   (hk:K (.ok v) none h):CALL q h K
 /-- a call that is known of the model itself -/
 |real {q:aX} {h:IH} {K:KR} (hm:kI P q h K):CALL q h K
end
end
end Go.Ideal
namespace Go.Ideal
variable {P:Program}
variable{o:Oper}{args:ae ak}{f:ak}
def ad4(hc:cop P o=some (.call f args)):∃cl,o.op=.call cl/\cl.callee=.value f/\cl.args.toList=args:=by
 obtain⟨dst,op,type,pos,after,guard⟩:=o;simp only[cop]at hc;repeat' split at hc
 all_goals first
  |contradiction
  |(cases hc;done)
  |(simp only[aI,reduceCtorEq]at hc;done)
  |(simp only[jC,reduceCtorEq,and_false,exists_false]at hc;done)
  |(simp only[aI,aF.call.injEq]at hc
    obtain⟨rfl,rfl⟩:=hc;exact⟨_,rfl,rfl,rfl⟩)
variable{x:ak}
def ad5{n:String}(hc:cop P o=some (.invoke x n args)):∃cl,o.op=.call cl/\cl.callee=.invoke x n/\cl.args.toList=args:=by
 obtain⟨dst,op,type,pos,after,guard⟩:=o;simp only[cop]at hc;repeat' split at hc
 all_goals first
  |contradiction
  |(cases hc;done)
  |(simp only[aI,reduceCtorEq]at hc;done)
  |(simp only[jC,reduceCtorEq,and_false,exists_false]at hc;done)
  |(simp only[aI,aF.invoke.injEq]at hc
    obtain⟨rfl,rfl,rfl⟩:=hc;exact⟨_,rfl,rfl,rfl⟩)
def ad6(hc:cop P o=some .recover):∃cl,o.op=.call cl/\cl.callee=.builtin .recover:=by
 obtain⟨dst,op,type,pos,after,guard⟩:=o;simp only[cop]at hc;repeat' split at hc
 all_goals first
  |contradiction
  |(cases hc;done)
  |(simp only[aI,reduceCtorEq]at hc;done)
  |(simp only[jC,reduceCtorEq,and_false,exists_false]at hc;done)
  |exact⟨_,rfl,rfl⟩
def ad7(hc:cop P o=some (.panic x)):o.op=.panic x\/∃cl,o.op=.call cl/\cl.callee=.builtin .panic/\cl.args.toList=[x]:=by
 obtain⟨dst,op,type,pos,after,guard⟩:=o;simp only[cop]at hc;repeat' split at hc
 all_goals first
  |contradiction
  |(cases hc;done)
  |(simp only[aI,reduceCtorEq]at hc;done)
  |(simp only[jC,reduceCtorEq,and_false,exists_false]at hc;done)
  |(simp only[aI,aF.panic.injEq]at hc;subst hc;exact .inl rfl)
  |(simp only[aI,aF.panic.injEq]at hc;subst hc;exact .inr ⟨_,rfl,rfl,by assumption⟩)
def ad8(hc:cop P o=some (.dcall f args)):∃cl,o.op=.defer cl/\cl.callee=.value f/\cl.args.toList=args:=by
 obtain⟨dst,op,type,pos,after,guard⟩:=o;simp only[cop]at hc;repeat' split at hc
 all_goals first
  |contradiction
  |(cases hc;done)
  |(simp only[aI,reduceCtorEq]at hc;done)
  |(simp only[jC,reduceCtorEq,and_false,exists_false]at hc;done)
  |(simp only[aI,aF.dcall.injEq]at hc
    obtain⟨rfl,rfl⟩:=hc;exact⟨_,rfl,rfl,rfl⟩)
def ad9(hc:cop P o=some (.yx x)):o.op=.next x false:=by
 obtain⟨dst,op,type,pos,after,guard⟩:=o;simp only[cop]at hc;repeat' split at hc
 all_goals first
  |contradiction
  |(cases hc;done)
  |(simp only[aI,reduceCtorEq]at hc;done)
  |(simp only[jC,reduceCtorEq,and_false,exists_false]at hc;done)
  |(simp only[aI,aF.yx.injEq]at hc;subst hc;rfl)
variable{c:aF}{q:aX}{β:aD}{ρ:ak->ah}
def aea{ρ':ak->ah}(hc:cop P o=some c)(hq:yD c ρ=some q)(hρ:∀x∈o.op.operands,VR β (ρ x) (ρ' x)):
 q.pm=none/\∃fn' args' cap',FR β q.fn fn'/\aQ β q.args args'/\aQ β q.captured cap'/\(∀w,(execOp ρ' o).run P w=(invoke (.fn fn' ⟨cap'⟩) ⟨args'⟩).run P w)/\∃cl,o.op=.call cl:=by
 unfold yD at hq;split at hq
 .rename_i f args;obtain⟨cl,h1,h2,h3⟩:=ad4 hc;obtain⟨callee,lF,ats⟩:=cl;simp only at h2 h3;subst h2 h3;have hops:∀x∈(Op.call {callee:=.value f,args:=lF,argTypes:=ats}).operands,VR β (ρ x) (ρ' x):=by rw[<- h1];exact hρ
  have hf:=hops f ux;have ha:∀x∈lF.toList,VR β (ρ x) (ρ' x):=λx hx=>hops x Bk;split at hq
  .rename_i fn first captured yK
   simp only[aI]at hq;subst hq;rw[yK]at hf;obtain⟨fn',f',c',k1,k2,k3,k4⟩:=hf.Af;refine⟨rfl,fn',f'++lF.toList.map ρ',c',k1,?_,k3,λw=>?_,_,h1⟩
   .show aQ β (kF first (lq ρ lF.toList)) _;rw[jc];exact k2.append (aQ.of_map ha)
   .obtain⟨dst,op,type,pos,after,guard⟩:=o;simp only at h1;subst h1;have he:(⟨f'⟩:Array ah)++lF.map ρ'=⟨f'++lF.toList.map ρ'⟩:=by apply Array.ext';simp
    exact od
  .cases hq
 .rename_i x name args;obtain⟨cl,h1,h2,h3⟩:=ad5 hc;obtain⟨callee,lF,ats⟩:=cl;simp only at h2 h3;subst h2 h3;have hops:∀y∈(Op.call {callee:=.invoke x name,args:=lF,argTypes:=ats}).operands,VR β (ρ y) (ρ' y):=by rw[<- h1];exact hρ
  have hx:=hops x ux;have ha:∀x∈lF.toList,VR β (ρ x) (ρ' x):=λx hx=>hops x Bk;simp only[aI]at hq;subst hq;refine⟨rfl,.method name,ρ' x::lF.toList.map ρ',[],.method name,.cons hx (aQ.of_map ha),.nil,λw=>?_,_,h1⟩;obtain⟨dst,op,type,pos,after,guard⟩:=o;simp only at h1;subst h1;have he:(#[ρ' x]:Array ah)++lF.map ρ'=⟨ρ' x::lF.toList.map ρ'⟩:=sL
  simp only[execOp,resolve,dm,ed,dB,he]
 .cases hq
def aeb(hq:yD c ρ=some q):heavy c=true:=by
 unfold yD at hq;split at hq
 .rfl
 .rfl
 .cases hq
def aec(d:Tmp)(ds:ae Tmp)(a:aU):forget (d::ds) a=forget ds (a.set d dH):=rfl
def Ol(ds:ae Tmp):∀(a:aU),(∀i,a.n<=i->dD a.tmps i=dH)->(forget ds a).n=a.n/\(forget ds a).defers=a.defers/\(forget ds a).pm=a.pm/\(forget ds a).ro=a.ro/\(∀i,a.n<=i->dD (forget ds a).tmps i=dH)/\
 ∀t,dD (forget ds a).tmps t=dH\/(t∉ds/\dD (forget ds a).tmps t=dD a.tmps t):=by
 induction ds with
 |nil=>intro a ho;exact⟨rfl,rfl,rfl,rfl,ho,λt=>.inr ⟨qe,rfl⟩⟩
 |cons d ds ih=>
  intro a ho;rw[aec];have hput:a.set d dH=a.put (some d) dH:=rfl;have ho2:∀i,(a.set d dH).n<=i->dD (a.set d dH).tmps i=dH:=λi hi=>by
   rw[hput,qF]at hi;rw[hput,uD,if_neg (λhc=>by have:=hc.2;omega)];exact ho i hi
  obtain⟨h1,h2,h3,h4,h5,h6⟩:=ih (a.set d dH) ho2;rw[hput,qF]at h1 h5;rw[hput,put_defers]at h2;rw[hput,vX]at h3;rw[hput,vY]at h4;refine⟨h1,h2,h3,h4,h5,λt=>?_⟩;rcases h6 t with e|⟨e1,e2⟩
  .exact .inl e
  .rw[hput,uD]at e2;by_cases hd:some d=some t/\t<a.n
   .rw[if_pos hd]at e2;exact .inl e2
   .rw[if_neg hd]at e2;by_cases hdt:d=t
    .subst hdt;have hge:a.n<=d:=Nat.le_of_not_lt λhh=>hd ⟨rfl,hh⟩;exact .inl (e2.trans (ho d hge))
    .refine .inr ⟨?_,e2⟩;intro hc;rcases bN.1 hc with e|e
     .exact hdt e.symm
     .exact e1 e
def AR.forget{X:Nat->Prop}{a:aU}{tm:Array ah}{df:ae Deferred}(k:AR β X a tm df){ds:ae Tmp}(h:∀t,X t->t∈ds):AR β none' (Ideal.forget ds a) tm df:=by
 obtain⟨h1,h2,h3,h4,h5,h6⟩:=Ol ds a k.out;refine⟨by rw[h1];exact k.size,λt _=>?_,by rw[h1];exact h5,by rw[h2];exact k.defers⟩;rcases h6 t with e|⟨e1,e2⟩
 .rw[e];exact .dH _
 .rw[e2];exact k.tmps t λhx=>e1 (h t hx)
section
variable {ds:ae Tmp} {a:aU} {h:IH} {K:KO}
variable{s:bJ}{l:ae bJ}
def D5{ops:Array Oper}{bO:Nat->Nat->Bool}{hv:Nat->Bool}{i:Nat}{rest done:ae Nat}(hp:Aj P ops bO hv (i::rest) done (s::l))(hh:heavy s.s.op=true):hv i=true:=by
 obtain⟨_,s1,re,r,hl,_,hlt,_⟩:=hp;simp only[Bw]at hl;obtain⟨rfl,rfl⟩:=hl;cases kw:hv i with
 |true=>rfl
 |false=>rw[hlt kw]at hh;cases hh
def aed(hw:a.wants s.s.guard=some true)(q:aX)(hq:yD s.s.op a.eval=some q)(M:KR)(hc:kI P q h M)
 (hre:∀v pm h',M (.ok v) pm h'->∀r∈s.re,(a.put s.s.dst v).wants r.guard≠some false->∃u h2,r.op.run P (a.put s.s.dst v).eval h'=some (u,h2)/\∀d,r.dst=some d->dD (a.put s.s.dst v).tmps d=u)
 (ih:∀v pm h',M (.ok v) pm h'->oJ P ds l (a.put s.s.dst v) h' K)
 (jv:∀ch pm h',M (.fD ch) pm h'->K (.panic ch) (forget ds a) h'):oJ P ds (s::l) a h K:=by
 intro ops bO hv rest done S hp hds β0 h0 w0 jW jr cs0 β w b tm df k cs ρ hG hdom hcx hI hR hcs hro;cases rest with
 |nil=>cases hp.1
 |cons i rest=>
  have kw:=D5 hp (aeb hq);obtain⟨o,S',β',w',tm',ρ',ho,gu,hdst,t1,t0,t2,r4,hstep,mE,hpre,hwant,hG',sV,hrr⟩:=come hp kw hG hdom hI hR b k cs;obtain⟨aee,fn',args',cap',k1,k2,k3,k4,cl,k5⟩:=aea (ρ':=Act.eval ⟨tm',df⟩) gu hq sV;have hnd:∀c,o.op≠.defer c:=by rw[k5];simp
  obtain⟨nx,F0,n1,n2,n3⟩:=hc.call aee hG' t2.wr k1 k2 k3;rw[<- k4]at n1;have henter:step P (lone (fr b tm' df (.inRegion ops (i::ρ')::k)) cs w')=.next (lone F0 (fr b tm' df (.inRegion ops (i::ρ')::k)::cs) w'):=by
   cases nx<;>simp only[entry,aI,reduceCtorEq]at n2
   .subst n2;exact adN ho (hwant _ hw) (.inr hnd) n1
   .subst n2;exact adO ho (hwant _ hw) (.inr hnd) n1
  obtain⟨r,h',β2,w2,r',q1,q2,q3,q4,q5⟩:=n3 (fr b tm' df (.inRegion ops (i::ρ')::k)) cs;have hle:=q3.le t2.wr.dom;cases q4 with
  | @ok v v' hvv=>
    have hfin:recv (fr b tm' df (.inRegion ops (i::ρ')::k)) (.returned v')=fr b (qa tm' o.dst v') df (.inRegion ops ρ'::k):=by
     have:=Gf (b:=b) (tm:=tm') (df:=df) (k:=k) (ops:=ops) (i:=i) (rest:=ρ') (v:=v');rw[ho]at this;exact this
    rw[hfin]at q5;have hI2:=t2.sync hstep ho hpre q3 q2 hvv (a2:=a.put s.s.dst v) (λt=>by rw[hdst]) (qF _ _ _) (df2:=df) xp
     (.inr λj hj hjs t ht hrd hwt=>hre v none h' q1 t (hrr j hj hjs t ht hrd) hwt)
    exact .of_steps (t1.trans (.head henter q5)) (ih v none h' q1 ops bO hv rest (i::done) (i::S') mE hds β0 h0 w0 jW jr cs0 β2 w2 b _ df k cs ρ' hG hdom hcx hI2 r4 xF sE)
  | @fD ch ch' hch=>
    have hx:∀t,waits ops done S' t->t∈ds:=by
     exact pn
    obtain⟨f1,f2,f3,f4,_,_⟩:=Ol ds a t2.act.out;refine .of_steps (t1.trans (.head henter q5)) ⟨.panic ch,forget ds a,h',β2,w2,tm',df,cs,jv ch none h' q1,q2,t2.uC.trans q3,(t2.act.forget hx).mono hle,by rw[f3];exact(hcs.mono t0).mono hle,by rw[f4];exact hro,.inRegion ops (i::ρ')::k,ch',hch,?_⟩;exact Steps.refl P _
def aef(hw:a.wants s.s.guard=some true)(x:ak)(hop:s.s.op=.panic x)(t:aB)(v:ah)(hx:a.eval x=.iface t v)
 (hk:K (.panic [{v:=.iface t v,recovered:=false}]) (forget ds a) h):oJ P ds (s::l) a h K:=by
 intro ops bO hv rest done S hp hds β0 h0 w0 jW jr cs0 β w b tm df k cs ρ hG hdom hcx hI hR hcs hro;cases rest with
 |nil=>cases hp.1
 |cons i rest=>
  have kw:=D5 hp s8;obtain⟨o,S',β',w',tm',ρ',ho,gu,hdst,t1,t0,t2,r4,hstep,mE,hpre,hwant,hG',sV,hrr⟩:=come hp kw hG hdom hI hR b k cs;rw[hop]at gu;have hrun:∃v',VR β' v v'/\(execOp (Act.eval ⟨tm',df⟩) o).run P w'=.halt (.panic (.iface t v')) w'/\∀c,o.op≠.defer c:=by
   rcases ad7 gu with h1|⟨cl,h1,h2,h3⟩
   .have hxv:=sV x (by rw[h1];simp[Op.operands]);rw[hx]at hxv;obtain⟨v',hv',he⟩:=hxv.Ca;refine⟨v',hv',?_,tr⟩;obtain⟨dst,op,type,pos,after,guard⟩:=o;simp only at h1;subst h1;simp[execOp,he,Instr.panic]
   .obtain⟨callee,lF,ats⟩:=cl;simp only at h2 h3;subst h2
    have hxv:=sV x (by rw[h1];simp only[Op.operands,Call.operands,zN];right;have:x∈lF.toList:=by rw[h3];simp
                       simpa using this)
    rw[hx]at hxv;obtain⟨v',hv',he⟩:=hxv.Ca;obtain rfl:lF= #[x]:=by apply Array.ext';exact h3
    refine⟨v',hv',?_,tr⟩;obtain⟨dst,op,type,pos,after,guard⟩:=o;simp only at h1;subst h1;rw[Ai];simp[builtin,he,Instr.panic]
  obtain⟨v',hv',hr,hnd⟩:=hrun;have hs:=adP (P:=P) (b:=b) (k:=k) (cs:=cs) (rest:=ρ') ho (hwant _ hw) (.inr hnd) hr;have Gm:∀t,waits ops done S' t->t∈ds:=by
   exact pn
  obtain⟨f1,f2,f3,f4,_,_⟩:=Ol ds a t2.act.out;exact .of_steps (t1.trans (.one hs)) ⟨_,forget ds a,h,β',w',tm',df,cs,hk,t2.wr,t2.uC,t2.act.forget Gm,by rw[f3];exact hcs.mono t0,by rw[f4];exact hro,.inRegion ops (i::ρ')::k,[{v:=.iface t v',recovered:=false}],.cons (.iface t hv') rfl rfl .nil,Steps.refl P _⟩
def aeg(hw:a.wants s.s.guard=some true)(f:ak)(args:ae ak)(hop:s.s.op=.dcall f args)(hre:s.re=[])(Gn:a.ro=none)
 (fn:Fn) (first captured:ae ah) (hf:a.eval f=.func fn ⟨first⟩ ⟨captured⟩)
 (ih:oJ P ds l ({a with defers:={target:=.fn fn ⟨captured⟩,args:=⟨kF first (lq a.eval args)⟩}::a.defers}.put s.s.dst dH) h K):oJ P ds (s::l) a h K:=by
 intro ops bO hv rest done S hp hds β0 h0 w0 jW jr cs0 β w b tm df k cs ρ hG hdom hcx hI hR hcs hro;cases rest with
 |nil=>cases hp.1
 |cons i rest=>
  have kw:=D5 hp s8;obtain⟨o,S',β',w',tm',ρ',ho,gu,hdst,t1,t0,t2,r4,hstep,mE,hpre,hwant,hG',sV,hrr⟩:=come hp kw hG hdom hI hR b k cs;rw[hop]at gu;obtain⟨cl,h1,h2,h3⟩:=ad8 gu;obtain⟨callee,lF,ats⟩:=cl;simp only at h2 h3;subst h2 h3;have hops:∀x∈(Op.defer {callee:=.value f,args:=lF,argTypes:=ats}).operands,VR β' (a.eval x) (Act.eval ⟨tm',df⟩ x):=by rw[<- h1];exact sV
  have yK:=hops f ux;have Gp:∀x∈lF.toList,VR β' (a.eval x) (Act.eval ⟨tm',df⟩ x):=λx hx=>hops x Bk;rw[hf]at yK;obtain⟨fn',f',c',k1,k2,k3,k4⟩:=yK.Af;have Gq:b.roundOf=none:=by
   exact eM
  have hr:(execOp (Act.eval ⟨tm',df⟩) o).run P w'=.ok (.defer {target:=.fn fn' ⟨c'⟩,args:=⟨f'++lF.toList.map (Act.eval ⟨tm',df⟩)⟩}) w':=by
   obtain⟨dst,op,type,pos,after,guard⟩:=o;simp only at h1;subst h1;have he:(⟨f'⟩:Array ah)++lF.map (Act.eval ⟨tm',df⟩)=⟨f'++lF.toList.map (Act.eval ⟨tm',df⟩)⟩:=sL
   exact od
  have hs:=adQ (P:=P) (b:=b) (k:=k) (cs:=cs) (rest:=ρ') ho (hwant _ hw) Gq hr;have hI2:=t2.sync hstep ho hpre (Eff.refl _ _ _ t2.wr.dom) t2.wr (v:=dH) (v':=undef) (.dH _) (a2:=({a with defers:={target:=.fn fn ⟨captured⟩,args:=⟨kF first (lq a.eval lF.toList)⟩}::a.defers}:aU).put s.s.dst dH)
   (λt=>by rw[uD,uD,hdst]) (qF _ _ _) (df2:={target:=.fn fn' ⟨c'⟩,args:=⟨f'++lF.toList.map (Act.eval ⟨tm',df⟩)⟩}::df) (by
     rw[put_defers];refine .fn k1 k3 ?_ t2.act.defers;rw[jc];exact k2.append (aQ.of_map Gp)) (.inl rfl)
  exact .of_steps (t1.trans (.one hs)) (ih ops bO hv rest (i::done) (i::S') mE hds β0 h0 w0 jW jr cs0 β' w' b _ _ k cs ρ' hG hdom hcx hI2 r4 (by rw[vX];exact hcs.mono t0) sE)
def Ur{o:Oper}(hc:cop P o=some .recover)(ρ:ak->ah)(w:World):(execOp ρ o).run P w=.ok .recover w:=by
 obtain⟨cl,h1,h2⟩:=ad6 hc;obtain⟨callee,lF,ats⟩:=cl;simp only at h2;subst h2;obtain⟨dst,op,type,pos,after,guard⟩:=o;simp only at h1;subst h1;rw[Ai];rfl
def aeh(hw:a.wants s.s.guard=some true)(hop:s.s.op=.recover)(hre:s.re=[])(hm:a.pm=none)(Gn:a.ro=none)(ih:oJ P ds l (a.put s.s.dst .nilIface) h K):oJ P ds (s::l) a h K:=by
 intro ops bO hv rest done S hp hds β0 h0 w0 jW jr cs0 β w b tm df k cs ρ hG hdom hcx hI hR hcs hro;cases rest with
 |nil=>cases hp.1
 |cons i rest=>
  have kw:=D5 hp s8;obtain⟨o,S',β',w',tm',ρ',ho,gu,hdst,t1,t0,t2,r4,hstep,mE,hpre,hwant,hG',sV,hrr⟩:=come hp kw hG hdom hI hR b k cs;rw[hop]at gu;have Gq:b.roundOf=none:=by
   exact eM
  have hkind:b.kind=.normal:=by
   have h1:=hcx.kind;rw[hm]at hcs;cases hcs;exact h1
  have hs:=Ue (P:=P) (b:=b) (df:=df) (k:=k) (cs:=cs) (rest:=ρ') ho (hwant _ hw) Gq (Ur gu (Act.eval ⟨tm',df⟩) w');have htr:tryRecover (fr b tm' df (.inRegion ops (i::ρ')::k)) cs=none:=by
   have:(fr b tm' df (.inRegion ops (i::ρ')::k)).kind=.normal:=hkind;unfold tryRecover;rw[this]
  rw[htr]at hs;have hI2:=t2.sync hstep ho hpre (Eff.refl _ _ _ t2.wr.dom) t2.wr (v:=.nilIface) (v':=.nilIface) .nilIface (a2:=a.put s.s.dst .nilIface) (λt=>by rw[hdst]) (qF _ _ _) (df2:=df) tn (.inl rfl);exact eo
def aei{β:aD}{m:FrameMode}{c:Frame}(hm:MR β m c.mode)(rest:ae Frame):(∃v' mr,recoverD (c::rest)=some (v',{c with mode:=mr}::rest)/\VR β (jV m).1 v'/\MR β (jV m).2 mr)\/(recoverD (c::rest)=none/\(jV m).1=.nilIface/\(jV m).2=m):=by
 cases hcm:c.mode with
 |run=>rw[hcm]at hm;cases hm;right;simp[recoverD,hcm,jV]
 |returning=>rw[hcm]at hm;cases hm;right;simp[recoverD,hcm,jV]
 |panicking ch=>
  rw[hcm]at hm;cases hm with
  |panicking hp=>
   cases hp with
   |nil=>right;simp[recoverD,hcm,jV]
   | @cons e e' l l' hv hr hg hl=>
     obtain⟨ev,er,eg⟩:=e';simp only at hv hr hg;cases her:e.recovered with
     |true=>right;rw[her]at hr;subst hr;simp[recoverD,hcm,jV,her]
     |false=>
      cases Gr:e.goexit with
      |true=>right;rw[Gr]at hg;subst hg;simp[recoverD,hcm,jV,her,Gr]
      |false=>
       rw[her]at hr;rw[Gr]at hg;subst hr hg;left;refine⟨ev,.panicking ({v:=ev,recovered:=true}::l'),by simp[recoverD,hcm],?_,?_⟩
       .simp only[jV,her,Gr,Bool.or_false,cond_false];exact hv
       .simp only[jV,her,Gr,Bool.or_false,cond_false];exact .panicking (.cons hv rfl rfl hl)
def aej(hw:a.wants s.s.guard=some true)(hop:s.s.op=.recover)(hre:s.re=[])(m:FrameMode)(hm:a.pm=some m)(Gn:a.ro=none)
 (ih:oJ P ds l ({a with pm:=some (jV m).2}.put s.s.dst (jV m).1) h K):oJ P ds (s::l) a h K:=by
 intro ops bO hv rest done S hp hds β0 h0 w0 jW jr cs0 β w b tm df k cs ρ hG hdom hcx hI hR hcs hro;cases rest with
 |nil=>cases hp.1
 |cons i rest=>
  have kw:=D5 hp s8;obtain⟨o,S',β',w',tm',ρ',ho,gu,hdst,t1,t0,t2,r4,hstep,mE,hpre,hwant,hG',sV,hrr⟩:=come hp kw hG hdom hI hR b k cs;rw[hop]at gu;have Gq:b.roundOf=none:=by
   exact eM
  have hcs2:=hcs.mono t0;rw[hm]at hcs2;have aek:=hcx.kind;cases hcs2 with
  |some m0 _ c0 D6 mr hmr=>
  have hkind:(fr b tm' df (.inRegion ops (i::ρ')::k)).kind=.deferred:=aek;have hs:=Ue (P:=P) (b:=b) (df:=df) (k:=k) (cs:={c0 with mode:=mr}::D6) (rest:=ρ') ho (hwant _ hw) Gq (Ur gu (Act.eval ⟨tm',df⟩) w');rw[tryRecover_deferred hkind]at hs;have sync:∀(v':ah),VR β' (jV m).1 v'->Inv P ops hv bO β0 h0 w0 (i::done) (i::S') β' ({a with pm:=some (jV m).2}.put s.s.dst (jV m).1) h w' (qa tm' o.dst v') df:=λv' hv'=>
   t2.sync hstep ho hpre (Eff.refl _ _ _ t2.wr.dom) t2.wr (v:=(jV m).1) (v':=v') hv' (a2:=({a with pm:=some (jV m).2}:aU).put s.s.dst (jV m).1)
    (λt=>by rw[uD,uD,hdst]) (qF _ _ _) (df2:=df) tn (.inl rfl)
  rcases aei (c:={c0 with mode:=mr}) hmr D6 with⟨v',Og,e1,e2,e3⟩|⟨e1,e2,e3⟩
  .rw[e1]at hs;exact .of_steps (t1.trans (.one hs)) (ih ops bO hv rest (i::done) (i::S') mE hds β0 h0 w0 (some m0) jr (c0::D6) β' w' b _ df k _ ρ' hG hdom hcx (sync v' e2) r4 (by rw[vX];exact .some m0 _ c0 D6 Og e3) sE)
  .rw[e1]at hs;exact .of_steps (t1.trans (.one hs)) (ih ops bO hv rest (i::done) (i::S') mE hds β0 h0 w0 (some m0) jr (c0::D6) β' w' b _ df k _ ρ' hG hdom hcx (sync .nilIface (by rw[e2];exact .nilIface)) r4 (by rw[vX,e3];exact .some m0 _ c0 D6 mr hmr) sE)
end
end Go.Ideal
namespace Go.Ideal
variable {P:Program}
variable{β:aD}
def fP.filter(p:Nat->Bool){l l':ae MapEntry}(he:fP β l l'):fP β (l.filter λe=>p e.born) (l'.filter λe=>p e.born):=by
 induction he with
 |nil=>exact .nil
 | @cons e e' l l' hk hf hb hv hl ih=>
   simp only[Bz,hb];split
   .exact .cons hk hf hb hv ih
   .exact ih
variable{l l':ae MapEntry}
def fP.mem(he:fP β l l'){e':MapEntry}(hm:e'∈l'):∃e∈l,e'.key=e.key/\bR e.key=true/\e'.born=e.born/\VR β e.val e'.val:=by
 induction he with
 |nil=>simp at hm
 | @cons e e1 l l' hk hf hb hv hl ih=>
   rcases bN.1 hm with rfl|hm
   .exact⟨e,qe,hk,hf,hb,hv⟩
   .obtain⟨x,hx,h⟩:=ih hm;exact⟨x,by simp[hx],h⟩
def fP.append{r r':ae MapEntry}(he:fP β l l')(h2:fP β r r'):fP β (l++r) (l'++r'):=by
 induction he with
 |nil=>exact h2
 |cons hk hf hb hv hl ih=>exact .cons hk hf hb hv ih
def fP.all(p:Nat->Bool){l l':ae MapEntry}(he:fP β l l'):(l'.all λe=>p e.born)=l.all λe=>p e.born:=by
 induction he with
 |nil=>rfl
 |cons hk hf hb hv hl ih=>simp only[Di,hb,ih]
def fP.isEmpty(he:fP β l l'):l'.isEmpty=l.isEmpty:=by cases he<;>rfl
def ael(n:Nat)(hn:0<n)(w:World):∃k w1,(choose (.mapNext n)).run P w=.ok k w1/\k<n/\w1.heap=w.heap/\w1.os=w.os/\w1.tape=w.tape/\w1.output=w.output/\w.drawn<=w1.drawn:=by
 rw[run_choose];by_cases h:n<=1
 .exact⟨0,w,by simp[Question.forced,h],hn,rfl,rfl,rfl,rfl,bz _⟩
 .exact⟨(Question.mapNext n).cut (w.tape w.drawn (.mapNext n)),{w with drawn:=w.drawn+1},by rw[if_neg (by simp[Question.forced];omega)],zM _ hn,rfl,rfl,rfl,rfl,zI _⟩
variable{h:IH}
def aem{w:World}{v v':ah}{alts:ae (ah×IH)}(ha:BQ v h=some alts)(hv:VR β v v')(hW:WR P β h w)(ty:aB):
 ∃vh∈alts,∃r' w',(Instr.next v' false ty).run P w=.ok r' w'/\VR β vh.1 r'/\WR P β vh.2 w'/\Eff β h w β vh.2 w':=by
 unfold BQ at ha;split at ha
 .rename_i r;obtain⟨g,hb,hv'⟩:=hv.vT;split at ha
  .rename_i since seen last hg;simp only[aI]at ha;subst ha;obtain⟨m',seen',o1,o2,o3,o4⟩:=hW.obj r g _ hb hg;rw[o4]at hv';have hm':m'=none:=by cases o3;rfl
   subst hm';refine⟨_,bF.2 rfl,.tuple #[.bool false],w,?_,.tuple (.cons (.bool _) .nil),hW,Eff.refl _ _ _ hW.dom⟩;subst hv';simp only[Instr.next,wS,dm,yI o1 qe,dB,ed]
  .rename_i m since seen last hg;split at ha
   .rename_i es clock hgm;obtain⟨m',seen',o1,o2,o3,o4⟩:=hW.obj r g _ hb hg;rw[o4]at hv';obtain⟨gm,DV,hm'⟩:∃gm,β m=some gm/\m'=some gm.b:=by
     exact oc
    subst hm' hv';obtain⟨es',p1,p2⟩:=hW.obj m gm _ DV hgm;cases hc:(!seen.isEmpty&&!es.isEmpty&&es.all (λe=>Nat.ble last e.born))with
    |true=>rw[hc]at ha;cases ha
    |false=>
    rw[hc]at ha;simp only[cond_false,aI]at ha;let left:=es.filter λe=>!seen.contains e.born
    let left':=es'.filter λe=>!seen'.contains e.born
    have hcont:∀n,seen'.contains n=seen.contains n:=λn=>by rw[<- o2];simp
    have hleft:fP β left left'.toList:=by
     have:=p2.filter (λn=>!seen.contains n);have h2:left'.toList=es'.toList.filter λe=>!seen.contains e.born:=by
      show(es'.filter λe=>!seen'.contains e.born).toList=_;rw[Array.toList_filter];simp only[hcont]
     rw[h2];exact this
    have hold:fP β (left.filter λe=>Nat.blt e.born since) (left'.filter (·.born<since)).toList:=by
     have:=hleft.filter (λn=>Nat.blt n since);rw[Array.toList_filter];have h2:(left'.toList.filter λe=>decide (e.born<since))=left'.toList.filter λe=>Nat.blt e.born since:=by
      congr 1;funext e;rw[Bu];simp[uj]
     rw[h2];exact this
    have hnew:fP β (left.filter λe=>Nat.ble since e.born) (left'.filter (·.born>=since)).toList:=by
     have:=hleft.filter (λn=>Nat.ble since n);rw[Array.toList_filter];have h2:(left'.toList.filter λe=>decide (e.born>=since))=left'.toList.filter λe=>Nat.ble since e.born:=by
      congr 1;funext e;rw[Bu];simp[sO]
     rw[h2];exact this
    let old:=left.filter λe=>Nat.blt e.born since
    let new:=left.filter λe=>Nat.ble since e.born
    let old':=left'.filter (·.born<since)
    let new':=left'.filter (·.born>=since)
    let yL:=(if old'.isEmpty then #[none]else #[])++(old'++new').map some
    have hold':fP β old old'.toList:=hold;have aen:fP β new new'.toList:=hnew;have hoe:old'.isEmpty=old.isEmpty:=by
     have:=hold'.isEmpty;rw[<- this];cases old' with|mk l=>cases l<;>rfl
    have hpos:0<yL.size:=by
     show 0<((if old'.isEmpty then #[none]else #[])++(old'++new').map some:Array (aj MapEntry)).size;cases he:old'.isEmpty with
     |true=>simp;omega
     |false=>
      have:0<old'.size:=by
       rcases M7 old'.size with h0|h0
       .have:old'= #[]:=ach h0;rw[this]at he;simp at he
       .exact h0
      simp;omega
    obtain⟨k,w1,k1,k2,k3,k4,k5,k6,k7⟩:=ael (P:=P) yL.size hpos w;have hW1:WR P β h w1:=hW.nV k3;have hE1:Eff β h w β h w1:=Eff.nV hW.dom k3 k4 k5 k6 k7;have hguard:(!seen'.isEmpty&&!es'.isEmpty&&es'.all (·.born>=last))=false:=by
     rw[<- hc];have e1:seen'.isEmpty=seen.isEmpty:=by rw[<- o2];cases seen' with|mk l=>cases l<;>rfl
     have e2:es'.isEmpty=es.isEmpty:=by rw[<- p2.isEmpty];cases es' with|mk l=>cases l<;>rfl
     have e3:es'.all (·.born>=last)=es.all (λe=>Nat.ble last e.born):=by
      rw[<- p2.all (λn=>Nat.ble last n),<- Array.all_toList];congr 1;funext e;rw[Bu];simp[sO]
     rw[e1,e2,e3]
    have hck:yL[k]? =some yL[k]:=by simp[k2]
    have hrun:∀(x:aj MapEntry),yL[k]? =some x->(Instr.next (.pointer (some ⟨g.b,0,none⟩)) false ty).run P w=
     (match x with
     |some e=>do setObj g.b (.mapIter (some gm.b) since (seen'.push e.born) clock);pure (.tuple #[.bool true,e.key,e.val])
     |none=>pure (.tuple #[.bool false]):Sem ah).run P w1:=λx hx=>by
     simp only[Instr.next,dm,yI o1 qe,yI p1 qe,dB,hguard,uh,if_false];have k1':=k1;simp only[yL,old',new',left']at k1' hx;simp only[dm,ed,dB,k1',hx];cases x<;>rfl
    have hmem:yL[k]∈yL.toList:=qe
    cases hx:yL[k]with
    |none=>
     rw[hx]at hmem hck;have hemp:old.isEmpty=true:=by
      rw[<- hoe];cases he:old'.isEmpty with
      |true=>rfl
      |false=>
       exfalso
       have:none∈((if old'.isEmpty then #[none]else #[])++(old'++new').map some:Array (aj MapEntry)).toList:=hmem;rw[he]at this;simp at this
     refine⟨(.tuple #[.bool false],h),?_,.tuple #[.bool false],w1,by rw[hrun none hck];rfl,.tuple (.cons (.bool _) .nil),hW1,hE1⟩;rw[<- ha];refine jS _ ?_;have:(left.filter λe=>Nat.blt e.born since).isEmpty=true:=hemp;rw[if_pos this];simp
    |some e'=>
     rw[hx]at hmem hck;have aeo:e'∈old'.toList++new'.toList:=by
      have:some e'∈((if old'.isEmpty then #[none]else #[])++(old'++new').map some:Array (aj MapEntry)).toList:=hmem;simp only[Array.toList_append,M6,fO,cZ,aI,exists_eq_right]at this;rcases this with h1|h1
      .exfalso;split at h1<;>simp at h1
      .simpa using h1
     obtain⟨e,he,q1,q2,q3,q4⟩:=(hold'.append aen).mem aeo;have hlt:g.b<w1.heap.size:=by
      rw[k3];exact mB
     have o1':w1.heap[g.b]? =some (.mapIter (some gm.b) since seen' last):=by rw[k3];exact o1
     obtain⟨z1,z2,z3⟩:=Gb (w:=w1) (o:=.mapIter (some gm.b) since (seen'.push e'.born) clock) hlt;obtain⟨y1,y2⟩:=hW1.write hb hg (.mapIter (some m) since (seen++[e.born]) clock) z1 z2 rfl rfl rfl (bz _)
      ⟨some gm.b,seen'.push e'.born,z3,by rw[Array.toList_push,o2,q3],o3,o4⟩
     refine⟨(.tuple #[.bool true,e.key,e.val],h.set r (.mapIter (some m) since (seen++[e.born]) clock)),?_,.tuple #[.bool true,e'.key,e'.val],_,?_,?_,y1,hE1.trans y2⟩
     .rw[<- ha];refine ou _ (cZ.2 ⟨e,he,rfl⟩)
     .rw[hrun (some e') hck];simp only[dm,NN o1' qe,dB,ed]
     .refine .tuple (.cons (.bool _) (.cons ?_ (.cons q4 .nil)));rw[q1];exact VR.free q2
   .cases ha
  .cases ha
 .cases ha
def aeq{ds:ae Tmp}{a:aU}{K:KO}{s:bJ}{l:ae bJ}(hw:a.wants s.s.guard=some true)(x:ak)(hop:s.s.op=.yx x)(hre:s.re=[])(alts:ae (ah×IH))(ha:BQ (a.eval x) h=some alts)
 (ih:∀vh∈alts,oJ P ds l (a.put s.s.dst vh.1) vh.2 K):oJ P ds (s::l) a h K:=by
 intro ops bO hv rest done S hp hds β0 h0 w0 jW jr cs0 β w b tm df k cs ρ hG hdom hcx hI hR hcs hro;cases rest with
 |nil=>cases hp.1
 |cons i rest=>
  have kw:=D5 hp s8;obtain⟨o,S',β',w',tm',ρ',ho,gu,hdst,t1,t0,t2,r4,hstep,mE,hpre,hwant,hG',sV,hrr⟩:=come hp kw hG hdom hI hR b k cs;rw[hop]at gu;have h1:=ad9 gu;have hxv:=sV x (by rw[h1];simp[Op.operands]);obtain⟨vh,hm,r',w2,n1,n2,n3,n4⟩:=aem ha hxv t2.wr o.type;have hr:(execOp (Act.eval ⟨tm',df⟩) o).run P w'=.ok (.value r') w2:=by
   obtain⟨dst,op,type,pos,after,guard⟩:=o;simp only at h1;subst h1;exact yG n1
  have hs:=Jq (P:=P) (b:=b) (k:=k) (cs:=cs) (rest:=ρ') ho (hwant _ hw) (.inr tr) hr (.inl rfl);have hI2:=t2.sync hstep ho hpre n4 n3 n2 (a2:=a.put s.s.dst vh.1) (λt=>by rw[hdst]) (qF _ _ _) (df2:=df) tn
   (.inr λj hj hjs t ht hrd hwt=>by have:=hrr j hj hjs t ht hrd;rw[hre]at this;cases this)
  exact .of_steps (t1.trans (.one hs)) (ih vh hm ops bO hv rest (i::done) (i::S') mE hds β0 h0 w0 jW jr cs0 β' w2 b _ df k cs ρ' hG hdom hcx hI2 r4 (by rw[vX];exact hcs.mono t0) sE)
