/- Part. -/
import Derived.Test.YtignbinlipkmfaaGreatDoorIdealAR
import Derived.Laws.BytesString
import Derived.Recover
import Derived.RangeFuncRecord
set_option linter.all false
namespace Go.Ideal
variable {P:Program} {β:aI} {h:IH} {w:World}
def agO(v:ah)(l:ae ah):DF (v::l)=match v,DF l with
 | .int .u8 k,some r=>some (UInt8.ofNat k.toNat::r)
 |_,_=>none:=rfl
def agP{cs:ae ah}{bs:ae UInt8}(h:DF cs=some bs):∃ns:ae Int,cs=ns.map (Value.int .u8)/\bs=ns.map λn=>UInt8.ofNat n.toNat:=by
 induction cs generalizing bs with
 |nil=>change some []=some bs at h;simp only[bz]at h;exact⟨[],rfl,by rw[<- h];rfl⟩
 |cons v l ih=>
  rw[agO]at h;split at h
  .rename_i k r hr;simp only[bz]at h;obtain⟨ns,h1,h2⟩:=ih hr;exact⟨k::ns,by simp[h1],by simp[<- h,h2]⟩
  .cases h
def agQ(ns:ae Int):∀(r:ByteArray),ns.foldl (λr n=>r.push (UInt8.ofNat n.toNat)) r=⟨r.data++(ns.map λn=>UInt8.ofNat n.toNat).toArray⟩:=by
 induction ns with
 |nil=>intro r;simp
 |cons n ns ih=>intro r;simp only[xC];rw[ih];simp[ByteArray.push]
def agR{ns:ae Int}{l':ae ah}(h:aY β (ns.map (Value.int .u8)) l'):l'=ns.map (Value.int .u8):=by
 induction ns generalizing l' with
 |nil=>cases h;rfl
 |cons n ns ih=>cases h with|cons hv hl=>rw[hv.nT,ih hl];rfl
section
variable {dst:ak Tmp} {type:aF} {pos:String} {after:Array Edge} {guard:ak (Nat×Bool)} {c:aK} {ρ ρ':az->ah} {v:ah} {h':IH}
variable{x:az}
def agS{s d:aF}(hc:cop P ⟨dst,.convert s d x,type,pos,after,guard⟩=some c)(hr:c.run P ρ h=some (v,h'))(hx:VR β (ρ x) (ρ' x))(hW:WR P β h w):
 Good P β h w (execOp ρ' ⟨dst,.convert s d x,type,pos,after,guard⟩) v h':=by
 have av2:∀y,c=.conv s d y->y=x->Good P β h w (execOp ρ' ⟨dst,.convert s d x,type,pos,after,guard⟩) v h':=by
  rintro y rfl rfl;simp only[aK.run]at hr;cases hf:cB (ρ y)with
  |false=>rw[hf]at hr;cases hr
  |true=>
   rw[hf]at hr;simp only[cond_true]at hr;split at hr
   .rename_i u hu;simp only[bz,kL]at hr;obtain⟨rfl,rfl⟩:=hr;obtain⟨h1,h2⟩:=IQ hu;have hx':=hx.qO hf;exact Good.same hW (v':=u) By (VR.free h2)
   .cases hr
 simp only[cop]at hc;split at hc
 .cases hc
 .rename_i e hs hd;split at hc
  .rename_i he;cases hc;simp only[aK.run]at hr;split at hr
   .rename_i n k ha;obtain⟨rfl,rfl⟩:=hr;rw[ha]at hx;have hx':ρ' x=.slice none n k:=by generalize ρ' x=y at hx;cases hx;rfl
    refine Good.same hW (v':=.string .empty) ?_ (.string _);have:=run_convert_bytes_string (P:=P) w s d e none n k hs he hd;simp only[execOp,hx',dS,this];simp[Conv.bytesToString]
   .rename_i i o f n k ha;split at hr
    .rename_i cs hcs;split at hr
     .rename_i bs hbs;obtain⟨rfl,rfl⟩:=hr;rw[ha]at hx;obtain⟨g,a,c',hg,hx',ha1,ha2,hn,hcc,hoff,_⟩:=hx.nU;obtain⟨cs0,q1,q2⟩:=FW hcs;obtain⟨m1,m2,l',m3,m4⟩:=Ni hW hg q1 q2;obtain⟨ns,n1,n2⟩:=agP hbs;subst n1;have hl':=agR m3;subst hl';have hload:(loadCells a n).run P w=.ok (ns.map (Value.int .u8)).toArray w:=by
       rcases hoff with h0|⟨h0,ha2⟩
       .have hn0:n=0:=by omega
        subst hn0;have:ns=[]:=by
         grind
        subst this;simp[loadCells,loadCellsFrom]
       .obtain⟨ab,ao,as⟩:=a;subst ha1 ha2 h0;have:=Rn (P:=P) (w:=w) (b:=g.b) (o:=g.off+o) m1 m4;simpa using this
      refine Good.same hW (v':=.string ⟨⟨bs⟩⟩) ?_ (.string _);simp only[execOp,hx',dS,run_convert_bytes_string (P:=P) w s d e (some a) n c' hs he hd,run_bytesToString w a n c' ns hload,eX,fM,agQ,n2];have he0:ByteArray.empty.data= #[]:=rfl
      grind
     .cases hr
    .cases hr
   .cases hr
  .cases hc
 .cases hc
 .grind
 .cases hc
def agT{t:aF}{y:az}(hc:cop P ⟨dst,.index t x y,type,pos,after,guard⟩=some c)(hr:c.run P ρ h=some (v,h'))(hx:VR β (ρ x) (ρ' x))(hy:VR β (ρ y) (ρ' y))(hW:WR P β h w):
 Good P β h w (execOp ρ' ⟨dst,.index t x y,type,pos,after,guard⟩) v h':=by
 simp only[cop]at hc;split at hc
 .rename_i n e hu;split at hc
  .rename_i s d hs hd;cases hc;obtain⟨hs1,hs2⟩:=wD hs;simp only[aK.run]at hr;split at hr
   .rename_i cs k i ha hi;rw[ha]at hx;rw[hi]at hy;obtain⟨cs',h1,h2,hx'⟩:=hx.Ro;have hy':=hy.nT;cases hb:Nat.blt i n with
    |false=>rw[hb]at hr;cases hr
    |true=>
     rw[hb]at hr;simp only[cond_true]at hr;have hlt:i<n:=tW
     have hr':h'=h/\(match lD P e with
      |true=>match jW (kP cs (i*s)) s with
       |some l=>some (.agg ⟨l⟩:ah)
       |none=>none
      |false=>lu cs (i*s))=some v:=by
      cases hagg:lD P e with
      |true=>
       rw[hagg]at hr;simp only at hr⊢;split at hr
       .rename_i l hl;have hl:jW (kP cs (i*s)) s=some l:=hl;exact rI
       .cases hr
      |false=>
       rw[hagg]at hr;simp only at hr⊢;split at hr
       .rename_i l hl;have hl:lu cs (i*s)=some l:=hl;exact rI
       .cases hr
     obtain⟨rfl,hr2⟩:=hr';obtain⟨v',p1,p2⟩:=Xu hd hs1 h1 h2 hr2 w;refine Good.same hW (v':=v') ?_ p2;simp only[execOp,Instr.index,dS,gU hu,eX,hx',hy',asIntOf,fM,pg hs1];rw[if_pos ⟨tg,tx⟩];simp[pg hs1,p1]
   .cases hr
  .cases hc
 .rename_i hu;cases hc;simp only[aK.run]at hr;split at hr
  .rename_i s k i ha hi;rw[ha]at hx;rw[hi]at hy;have hx':=hx.BP;have hy':=hy.nT;split at hr
   .rename_i b hb;obtain⟨rfl,rfl⟩:=hr;rw[uo]at hb;refine Good.same hW (v':=.int .u8 b.toNat) ?_ (.int _ _);have hlt:i<s.size:=by
     have:=(bJ.1 hb).1;exact this
    have hb2:s[i]? =some b:=by
     rw[getElem?_pos s i hlt];exact congrArg some (bJ.1 hb).2
    simp only[execOp,Instr.index,dS,gU hu,eX,hx',hy',asIntOf,fM];have h0:(0:Int)<=Int.ofNat i:=tg
    rw[if_pos h0];simp only[Int.ofNat_eq_natCast,jJ,hb2];rfl
   .cases hr
  .cases hr
 .cases hc
def DW(b:Builtin)(args:Array az)(ats:Array aF)(ρ:az->ah):
 execOp ρ ⟨dst,.call {callee:=.builtin b,args,argTypes:=ats},type,pos,after,guard⟩=builtin b ats type (args.map λ| .const _=>true|_=>false) (args.map ρ):=rfl
variable{args:Array az}{ats:Array aF}
def agU(ha:args.toList=[x])(hc:cop P ⟨dst,.call {callee:=.builtin .len,args,argTypes:=ats},type,pos,after,guard⟩=some c)
 (hr:c.run P ρ h=some (v,h')) (hx:VR β (ρ x) (ρ' x)) (hW:WR P β h w):
 Good P β h w (execOp ρ' ⟨dst,.call {callee:=.builtin .len,args,argTypes:=ats},type,pos,after,guard⟩) v h':=by
 obtain rfl:args= #[x]:=by grind
 rw[DW];simp only[cop]at hc;split at hc
 .rename_i t ht;have hm:(#[x].map ρ')= #[ρ' x]:=by simp
  rw[hm];split at hc
  .rename_i hu;cases hc;simp only[aK.run]at hr;split at hr
   .rename_i s hs;simp only[bz,kL]at hr;obtain⟨rfl,rfl⟩:=hr;rw[hs]at hx;refine Good.same hW (v':=goInt s.size) ?_ (.int _ _);simp[builtin,Builtin.len_,ht,hx.BP,gU hu]
   .cases hr
  .rename_i n e hu;cases hc;simp only[aK.run,bz,kL]at hr;obtain⟨rfl,rfl⟩:=hr;refine Good.same hW (v':=goInt n) ?_ (.int _ _);simp[builtin,Builtin.len_,ht,gU hu]
  .rename_i p hu;split at hc
   .rename_i n e hu2;cases hc;simp only[aK.run,bz,kL]at hr;obtain⟨rfl,rfl⟩:=hr;refine Good.same hW (v':=goInt n) ?_ (.int _ _);simp[builtin,Builtin.len_,ht,gU hu,gU hu2]
   .cases hc
  .rename_i e hu;cases hc;simp only[aK.run]at hr;split at hr
   .rename_i a n k hs;simp only[bz,kL]at hr;obtain⟨rfl,rfl⟩:=hr;rw[hs]at hx;have hx':∃a' k',ρ' x=.slice a' n k':=by generalize ρ' x=y at hx;cases hx<;>exact⟨_,_,rfl⟩
    obtain⟨a',k',hx'⟩:=hx';refine Good.same hW (v':=goInt n) ?_ (.int _ _);simp[builtin,Builtin.len_,ht,hx',gU hu]
   .cases hr
  .rename_i kt et hu;cases hc;simp only[aK.run]at hr;split at hr
   .rename_i es hes;simp only[bz,kL]at hr;obtain⟨rfl,rfl⟩:=hr;refine Good.same hW (v':=goInt (jq es)) ?_ (.int _ _);rcases Xw hW hx hes with⟨_,h2,h3⟩|⟨i,g,es',clock,clock',_,_,_,h4,h5,_,h6⟩
    .subst h3;simp[builtin,Builtin.len_,ht,h2,gU hu];rfl
    .have hsz:es'.size=jq es:=by rw[xO,<- Array.length_toList];exact h6.length
     simp[builtin,Builtin.len_,ht,h4,gU hu,Ah h5,hsz]
   .cases hr
  .cases hc
 .cases hc
def agV(ha:args.toList=[x])(hc:cop P ⟨dst,.call {callee:=.builtin .cap,args,argTypes:=ats},type,pos,after,guard⟩=some c)
 (hr:c.run P ρ h=some (v,h')) (hx:VR β (ρ x) (ρ' x)) (hW:WR P β h w):
 Good P β h w (execOp ρ' ⟨dst,.call {callee:=.builtin .cap,args,argTypes:=ats},type,pos,after,guard⟩) v h':=by
 obtain rfl:args= #[x]:=by grind
 rw[DW];simp only[cop]at hc;split at hc
 .rename_i t ht;have hm:(#[x].map ρ')= #[ρ' x]:=by simp
  rw[hm];split at hc
  .rename_i e hu;cases hc;simp only[aK.run]at hr;split at hr
   .rename_i n k hs;obtain⟨rfl,rfl⟩:=hr;rw[hs]at hx;have hx':ρ' x=.slice none n k:=by generalize ρ' x=y at hx;cases hx;rfl
    refine Good.same hW (v':=goInt k) ?_ (.int _ _);simp[builtin,Builtin.cap_,ht,hx',gU hu]
   .rename_i i o n k hs;obtain⟨rfl,rfl⟩:=hr;rw[hs]at hx;obtain⟨g,a,c',hg,hx',_,_,_,_,_,hk⟩:=hx.nU;have hck:c'=k:=by
     grind
    subst hck;refine Good.same hW (v':=goInt c') ?_ (.int _ _);simp[builtin,Builtin.cap_,ht,hx',gU hu]
   .cases hr
  .cases hc
 .cases hc
def XA{mx:Bool}{xs ys:ae ah}{v:ah}{h':IH}{args:ae az}(hl:nQ ρ args=xs)(hr:(aK.Dz mx args).run P ρ h=some (v,h'))(hxs:aY β xs ys)(hW:WR P β h w):
 h'=h/\VR β v v/\(cond mx (Builtin.max_ #[] 0 ⟨ys⟩) (Builtin.min_ #[] 0 ⟨ys⟩)).run P w=.ok v w:=by
 simp only[aK.run,hl]at hr;split at hr
 .rename_i j a k b;cases hk:BG j k with
  |false=>rw[hk]at hr;cases hr
  |true=>
   have:=Xq hk;rw[hk]at hr;obtain⟨rfl,rfl⟩:=hr;refine⟨rfl,.int _ _,?_⟩;cases hxs with
   |cons h1 h2=>cases h2 with
    |cons h2 h3=>
     cases h3;rw[h1.nT,h2.nT];cases mx
     .simp only[cond_false,Builtin.min_,List.foldlM_cons,List.foldlM_nil,Builtin.min2,wE];simp only[fM,bind_pure]
      grind
     .simp only[cond_true,Builtin.max_,List.foldlM_cons,List.foldlM_nil,Builtin.max2,wE];simp only[fM,pure_bind]
      grind
 .cases hf:gJ xs with
  |false=>rw[hf]at hr;cases hr
  |true=>
   rw[hf]at hr;split at hr
   .rename_i u hu;obtain⟨rfl,rfl⟩:=hr;obtain⟨h1,h2⟩:=IQ hu;rw[hxs.qO hf];exact⟨rfl,VR.free h2,BN h1 w⟩
   .cases hr
def XB{b:Builtin}(hb:b=.min\/b=.max)(hc:cop P ⟨dst,.call {callee:=.builtin b,args,argTypes:=ats},type,pos,after,guard⟩=some c)
 (hr:c.run P ρ h=some (v,h')) (hx:∀x∈args.toList,VR β (ρ x) (ρ' x)) (hW:WR P β h w):
 Good P β h w (execOp ρ' ⟨dst,.call {callee:=.builtin b,args,argTypes:=ats},type,pos,after,guard⟩) v h':=by
 rw[DW];have hxs:=aY.of_map hx;have hargs:args.map ρ'=⟨args.toList.map ρ'⟩:=by grind
 rw[hargs];rcases hb with rfl|rfl
 .have:c=.Dz false args.toList:=by
   simp only[cop]at hc
   grind
  subst this;obtain⟨rfl,m2,m3⟩:=XA rfl hr hxs hW;refine Good.same hW ?_ m2;have m3:(Builtin.min_ ats type ⟨args.toList.map ρ'⟩).run P w=.ok v w:=m3;simp only[builtin,dS,m3,eX,fM]
 .have:c=.Dz true args.toList:=by
   simp only[cop]at hc
   grind
  subst this;obtain⟨rfl,m2,m3⟩:=XA rfl hr hxs hW;refine Good.same hW ?_ m2;have m3:(Builtin.max_ ats type ⟨args.toList.map ρ'⟩).run P w=.ok v w:=m3;simp only[builtin,dS,m3,eX,fM]
end
end Go.Ideal
namespace Go.Ideal
variable {P:Program} {β:aI} {h:IH} {w:World}
variable{size n:Nat}{xs:ae ah}
def Nr{m:Nat}{x x':ah}(hf:oV size n x h=some xs)(hl:qb x=some m)(hnm:n<=m)(hx:VR β x x')(hW:WR P β h w):
 ∃xs',aY β xs xs'/\xs.all cellV=true/\xs.length=n*size/\(∀w1,(Builtin.lenOf x').run P w1=.ok m w1)/\∀w1:World,w1.heap=w.heap->(Builtin.firstCells size n x').run P w1=.ok ⟨xs'⟩ w1:=by
 unfold oV at hf;split at hf
 .rename_i i o f len cap;simp only[qb,bz]at hl;subst hl;obtain⟨g,a,c',hg,rfl,ha1,ha2,hn,hcc,hoff,_⟩:=hx.nU;obtain⟨cs0,q1,q2⟩:=FW hf;obtain⟨m1,m2,l',m3,m4⟩:=Ni hW hg q1 q2;refine⟨l',m3,m2,m1,λw1=>rfl,λw1 hw1=>?_⟩;have hll:l'.length=n*size:=m3.length.trans m1;rcases hoff with h0|⟨h0,ha2⟩
  .have hn0:n=0:=by omega
   subst hn0;have:l'=[]:=by
    grind
   subst this;simp[Builtin.firstCells,loadCells,loadCellsFrom]
  .obtain⟨ab,ao,as⟩:=a;subst ha1 ha2 h0;exact run_firstCells_some w1 size n _ _ _ l' hll λj v hj=>by
    rw[addr_add,<- m4 j v hj];simp only[World.cell?,hw1]
 .rename_i len cap;simp only[qb,bz]at hl;subst hl;have hx':x'=.slice none len cap:=by cases hx;rfl
  rw[hx'];clear hx hx';split at hf
  .simp only[bz]at hf;subst hf;exact⟨[],.nil,rfl,tg,λ_=>rfl,λw1 _=>by simp[Builtin.firstCells]⟩
  .cases hf
 .rename_i s;simp only[qb,bz]at hl;subst hl;obtain rfl:=hx.BP;cases hsz:Nat.beq size 1 with
  |false=>grind
  |true=>
  have hsz1:size=1:=tL hsz;subst hsz1;rw[hsz]at hf;simp only[cond_true]at hf;rw[o9]at hf;split at hf
  .rename_i l hl;split at hl
   .rename_i hle;simp only[bz]at hf hl;subst hf hl;have hfree:gJ (nQ (λb:UInt8=>Value.int .u8 b.toNat) (s.data.toList.take n))=true:=by
     rw[xN];generalize s.data.toList.take n=l;induction l with
     |nil=>rfl
     |cons b l ih=>simp[gJ,cB,cellV,ih]
    refine⟨_,aY.free hfree,xP hfree,?_,λ_=>rfl,λw1 _=>?_⟩
    .rw[xN];simp at hle⊢;omega
    .rw[xN];simp only[Builtin.firstCells,fM];congr 1;apply Array.ext';simp[ByteArray.data_extract,List.extract_eq_take_drop]
   .cases hl
  .cases hf
 .cases hf
def RG(b:Nat)(o:Nat)(vs:ae ah):(w.setCells b o vs).heap.size=w.heap.size/\(∀x,x≠b->(w.setCells b o vs).heap[x]? =w.heap[x]?)/\
 ((∃c t fz,w.heap[b]? =some (.cells c t fz)/\¬(fz.1<=c.size/\c.size<fz.2))->∃c t fz,(w.setCells b o vs).heap[b]? =some (.cells c t fz)/\¬(fz.1<=c.size/\c.size<fz.2))/\(w.setCells b o vs).tape=w.tape/\(w.setCells b o vs).os=w.os/\(w.setCells b o vs).output=w.output:=by
 refine⟨?_,?_,?_,?_,?_,?_⟩
 .induction vs generalizing o w with
  |nil=>rfl
  |cons v vs ih=>show((w.setCell ⟨b,o,none⟩ v).setCells b (o+1) vs).heap.size=_;rw[ih];simp
 .induction vs generalizing o w with
  |nil=>intro x _;rfl
  |cons v vs ih=>intro x hx;show((w.setCell ⟨b,o,none⟩ v).setCells b (o+1) vs).heap[x]? =_;rw[ih _ x hx,Go.RowKit.Below.heap_setCell _ _ _ _ hx]
 .induction vs generalizing o w with
  |nil=>exact id
  |cons v vs ih=>
   rintro⟨c,t,fz,hh,hz⟩;refine ih _ ⟨c.setIfInBounds o v,t,fz,?_,As⟩;simp[World.setCell,Array.getElem?_modify,hh]
 .induction vs generalizing o w with
  |nil=>rfl
  |cons v vs ih=>show((w.setCell ⟨b,o,none⟩ v).setCells b (o+1) vs).tape=_;rw[ih];rfl
 .exact(Ww b (may:=λ_=>True) vs o w (λ_ _=>trivial)).1
 .exact(Ww b (may:=λ_=>True) vs o w (λ_ _=>trivial)).2.1
variable{ats:Array aF}{ty st xt e:aF}{xd:TypeDesc}
def RH(h0:ats[0]? =some st)(h1:ats[1]? =some xt)(hu:P.underlying st=some (.slice e))(hx:P.underlying xt=some xd)(hni:∀k,xd≠.int k)
 (hs:kw P e=some size) {base:ak Addr} {len cap n:Nat} {x:ah} (hl:∀w,(Builtin.lenOf x).run P w=.ok n w) (hle:len+n<=cap) {xs:ae ah} (hf:(Builtin.firstCells size n x).run P w=.ok ⟨xs⟩ w)
 {w':World} (hst:(match base with|some a=>storeCells (a.add (len*size)) xs|none=>pure ()).run P w=.ok () w'):
 (Builtin.append_ ats ty #[.slice base len cap,x]).run P w=.ok (.slice base (len+n) cap) w':=by
 have hz:(match xd with| .int _=>true|_=>false)=false:=by cases xd<;>first|rfl|grind
 simp only[Builtin.append_,h0,h1,QS,Fq,Ia,dS,gU hu,gU hx,pg hs,eX,fM,hz,Dn,if_false,hl,hle,if_true,Bool.not_false,hf];cases base with
 |none=>cases hst;rfl
 |some a=>simp only[dS,hst,eX,fM]
def agW{i:TypeInfo}{z:ah}(h0:ats[0]? =some st)(h1:ats[1]? =some xt)(hu:P.underlying st=some (.slice e))(hx:P.underlying xt=some xd)(hni:∀k,xd≠.int k)
 (hs:kw P e=some size) (hi:P.info? e=some i) (hz:i.zero=some z) (hzl:z.cells.size=size) {base:ak Addr} {len cap n:Nat} {x:ah} (hl:∀w,(Builtin.lenOf x).run P w=.ok n w) (hgt:cap<len+n)
 (hb:0<i.bytes) (hfit:(len+n)*i.bytes<=1073741824) {xs olds:ae ah} (hf:∀w1:World,w1.heap=w.heap->(Builtin.firstCells size n x).run P w1=.ok ⟨xs⟩ w1) (hfo:∀w1:World,w1.heap=w.heap->(Builtin.firstCells size len (.slice base len cap)).run P w1=.ok ⟨olds⟩ w1):
 ∃c rest,len+n<=c/\rest.length=(c - (len+n))*size/\
  (Builtin.append_ ats ty #[.slice base len cap,x]).run P w=.ok (.slice (some ⟨w.heap.size,0,none⟩) (len+n) c) {w.drew with heap:=w.heap.push (.cells ⟨olds++xs++rest⟩ e)}:=by
 have hz0:(match xd with| .int _=>true|_=>false)=false:=by cases xd<;>first|rfl|grind
 have hn:¬(len+n<=cap):=tf
 have hnb:len+n<=(len+n)*i.bytes:=Nat.le_mul_of_pos_right _ hb;have h63':¬(9223372036854775807<((len:Int)+(n:Int))):=tf
 have h48':¬(281474976710656<Builtin.nextslicecap (len+n) cap*i.bytes):=by
  have:=growslice_fits (need:=len+n) (old:=cap) (bytes:=i.bytes) hgt tf;omega
 refine⟨grownCap w (len+n) cap e,(Builtin.zeroCells z.cells (grownCap w (len+n) cap e - (len+n))).toList,?_,?_,?_⟩
 .unfold grownCap Question.cut;grind
 .simp[Builtin.zeroCells,hzl]
 .have hf':=hf w.drew rfl;have agX:=hfo w.drew rfl;have hsz:i.size=size:=by simpa[kw,hi]using hs
  simp[Builtin.append_,h0,h1,gU hu,gU hx,sizeOf,typeInfo,zeroValue,hi,hz,hl,hn,h63',h48',Question.forced,hz0,hsz,hf',agX,newRow,grownCap];have:∀Z:Array ah,((⟨olds⟩:Array ah)++((⟨xs⟩:Array ah)++Z))=⟨olds++(xs++Z.toList)⟩:=(by grind)
  rw[this];rfl
def agY{bytes:Nat}{s v:ah}{h':IH}(hr:z8 size bytes s n xs h=some (v,h')):∃base len cap,s=.slice base len cap/\(len+n)*bytes<=small/\(len+n)*size<=small/\
 ((len+n<=cap/\((∃i o f,base=some ⟨i,o,f⟩/\h.storeAt i (o+len*size) xs=some h'/\v=.slice (some ⟨i,o,f⟩) (len+n) cap)\/(base=none/\n=0/\h'=h/\v=.slice none (len+n) cap)))\/
   (¬len+n<=cap/\∃old,oV size len s h=some old/\v=.slice (some ⟨h.next,0,some size⟩) (len+n) (len+n)/\
     ((∃i o,base=some ⟨i,o,some size⟩/\0<size/\h'=(h.kill i).new (.cells (lX old xs)))\/((∀i o k,base≠some ⟨i,o,some (k+1)⟩)/\h'=h.new (.cells (lX old xs)))))):=by
 unfold z8 at hr;split at hr
 .rename_i base len cap;simp only at hr;cases hc:(((len.add n).mul bytes).ble small&&((len.add n).mul size).ble small&&(len.add n).ble small)with
  |false=>rw[hc]at hr;cases hr
  |true=>
   rw[hc]at hr;simp only[eU]at hc;refine⟨base,len,cap,rfl,mG hc.1.1,mG hc.1.2,?_⟩;cases hle:Nat.ble (len.add n) cap with
   |true=>
    refine .inl ⟨mG hle,?_⟩
    grind
   |false=>
    rw[hle]at hr;simp only[cond_false]at hr;refine .inr ⟨λhh=>?_,?_⟩
    .have:=MP hh
     grind
    .split at hr
     .cases hr
     .rename_i old hold;refine⟨old,hold,?_⟩;split at hr
      .rename_i i o k;cases hb:Nat.beq (Nat.succ k) size with
       |false=>rw[hb]at hr;cases hr
       |true=>
        have hk:k+1=size:=tL hb
        grind
      grind
 .cases hr
def RI(hW:WR P β h w){i o d:Nat}{g:jf}{a:Addr}(hg:β i=some g)(ha1:a.block=g.b){vs vs':ae ah}(hoff:vs=[]\/(a.off=g.off+o/\a.spot=none)){h':IH}(hs:h.storeAt i (o+d) vs=some h')(hv:aY β vs vs')(hall:vs.all cellV=true):
 ∃w',(∀k,k=0->(storeCells (a.add d) vs' k).run P w=.ok () w')/\WR P β h' w'/\Eff β h w β h' w':=by
 obtain⟨m1,m2,m3⟩:=DR hW hg hs hv hall;refine⟨_,λk hk=>?_,m2,m3⟩;subst hk;rcases hoff with h0|⟨h0,ha2⟩
 .subst h0;cases hv;rfl
 .obtain⟨ab,ao,as⟩:=a;subst ha1 ha2 h0;rw[addr_add,oq];exact m1 0 rfl
section
variable {dst:ak Tmp} {type:aF} {pos:String} {after:Array Edge} {guard:ak (Nat×Bool)} {c:aK} {ρ ρ':az->ah} {v:ah} {h':IH}
variable{size:Nat}
def agZ{n:Nat}{x x':ah}{xs:ae ah}(hf:yZ size n x h=some xs)(hl:qb x=some n)(hx:VR β x x')(hW:WR P β h w):
 ∃xs',aY β xs xs'/\xs.all cellV=true/\xs.length=n*size/\(∀w1,(Builtin.lenOf x').run P w1=.ok n w1)/\∀w1:World,w1.heap=w.heap->(Builtin.firstCells size n x').run P w1=.ok ⟨xs'⟩ w1:=by
 cases n with
 |succ k=>exact Nr hf hl (bI _) hx hW
 |zero=>
  cases x with
  |slice a m c=>
   have e:xs=[]:=by
    have hf:some ([])=some xs:=hf
    grind
   subst e;have hm:m=0:=by
    simp only[qb,bz]at hl;exact hl
   subst hm;have hx':∃a' c',x'=.slice a' 0 c':=by cases hx<;>exact⟨_,_,rfl⟩
   obtain⟨a',c',rfl⟩:=hx';refine⟨[],.nil,rfl,tg,λw1=>rfl,λw1 _=>?_⟩;cases a' with
   |none=>simp[Builtin.firstCells]
   |some a'=>simp[Builtin.firstCells,loadCells,loadCellsFrom]
  |string b=>exact Nr (x:=.string b) hf hl (bI _) hx hW
  |_=>cases hl
variable{ats:Array aF}{ty st xt e:aF}{i:TypeInfo}{z:ah}
def ag0{xd:TypeDesc}(h0:ats[0]? =some st)(h1:ats[1]? =some xt)(hu:P.underlying st=some (.slice e))(hxd:P.underlying xt=some xd)(hni:∀k,xd≠.int k)
 (hs:kw P e=some size) (hsp:0<size) (hi:P.info? e=some i) (hz:i.zero=some z) (hzl:z.cells.size=size) (hb:0<i.bytes) {s s' x x':ah} {n:Nat} {xs:ae ah}
 (hl:qb x=some n) (hf:yZ size n x h=some xs) (hr:z8 size i.bytes s n xs h=some (v,h')) (hvs:VR β s s') (IZ:VR β x x') (hW:WR P β h w):
 ∃w' β' v',(Builtin.append_ ats ty #[s',x']).run P w=.ok v' w'/\VR β' v v'/\WR P β' h' w'/\Eff β h w β' h' w':=by
 obtain⟨xs',x1,x2,x3,x4,x5⟩:=agZ hf hl IZ hW;have hxl:xs'.length=n*size:=x1.length.trans x3;obtain⟨base,len,cap,rfl,s1,s2,s3⟩:=agY hr;unfold small at s1 s2;rcases s3 with⟨hle,hin⟩|⟨hgt,old,hold,rfl,hnew⟩
 .
  rcases hin with⟨j,o,f,rfl,hst,rfl⟩|⟨rfl,rfl,rfl,rfl⟩
  .obtain⟨g,a,c',hg,rfl,ha1,ha2,hn,hcc,hoff,hkind⟩:=hvs.nU;have I1:xs=[]\/(a.off=g.off+o/\a.spot=none):=by
    rcases hoff with hh|hh
    .left;have:n=0:=by omega
     subst this;rw[<- lW,x3];simp
    .exact .inr hh
   obtain⟨w',p1,p2,p3⟩:=RI hW hg ha1 I1 hst x1 x2;refine⟨w',β,_,RH h0 h1 hu hxd hni hs x4 (lV hle hcc) (x5 w rfl) (w':=w') (p1 0 rfl),?_,p2,p3⟩;rcases hkind with⟨rfl,rfl⟩|⟨rfl,k1,k2,k3⟩
   .exact .ay hg ha1 hle hoff
   .exact .qf hg ha1 k3.2 hle k1 k2 k3.1 hcc (hoff.imp id (·.1))
  .have hs':s'=.slice none len cap:=by cases hvs;rfl
   subst hs';refine⟨w,β,_,RH h0 h1 hu hxd hni hs x4 hle (x5 w rfl) (w':=w) rfl,.sl0 _ _,hW,Eff.refl _ _ _ hW.dom⟩
 .
  obtain⟨old',o1,o2,o3,_,o5⟩:=Nr hold rfl (bI _) hvs hW;have hol:old'.length=len*size:=o1.length.trans o3;have hfresh:∀(base':ak Addr) (cap':Nat) (h2:IH),s'=.slice base' len cap'->cap'<len+n->h2.next=h.next->WR P β h2 w->Eff β h w β h2 w->h'=h2.new (.cells (lX old xs))->
   ∃w' β' v',(Builtin.append_ ats ty #[s',x']).run P w=.ok v' w'/\VR β' (.slice (some ⟨h.next,0,some size⟩) (len+n) (len+n)) v'/\WR P β' h' w'/\Eff β h w β' h' w':=by
   rintro base' cap' h2 rfl hcap hnext hW2 hE2 rfl;obtain⟨cc,rest,a1,a2,a3⟩:=agW (ty:=ty) h0 h1 hu hxd hni hs hi hz hzl x4 hcap hb tf x5 o5;have hcap2:(len+n)+(cc - (len+n))=cc:=tf
   have hmul:(len+n)*size+rest.length=cc*size:=by rw[a2,<- xB,hcap2]
   have hlen:(old++xs).length=(len+n)*size:=by rw[fV,o3,x3,xB]
   have hW3:WR P β h2 w.drew:=hW2.qg rfl;have RJ:Eff β h2 w β h2 w.drew:=Eff.qg hW2.dom rfl rfl rfl rfl;have hcells:=OR.IK (P:=P) (β:=β.add h2.next ⟨w.heap.size,0,(len+n)*size,cc*size,size⟩) (w:=w.drew) (cs:=old++xs) (cs':=old'++xs') e
    ((o1.append x1).mono (aI.xQ _ hW2.y8)) (by simp[o2,x2]) rest size
   have hcells:OR P (β.add h2.next ⟨w.heap.size,0,(len+n)*size,cc*size,size⟩) ⟨w.heap.size,0,(len+n)*size,cc*size,size⟩ {w.drew with heap:=w.drew.heap.push (.cells ⟨old'++xs'++rest⟩ e)} (.cells (old++xs)):=by
    rw[hlen,hmul]at hcells;exact hcells
   obtain⟨b1,b2⟩:=hW3.alloc (.cells (old++xs)) (.cells ⟨old'++xs'++rest⟩ e) ⟨w.heap.size,0,(len+n)*size,cc*size,size⟩ rfl rfl hcells;refine⟨_,_,_,a3,?_,by rw[jO];exact b1,by rw[jO];exact(hE2.trans RJ).trans b2⟩;have hb:=aI.lY β h2.next ⟨w.heap.size,0,(len+n)*size,cc*size,size⟩
   rw[<- hnext];exact VR.qf (g:=⟨w.heap.size,0,(len+n)*size,cc*size,size⟩) hb rfl rfl (bI _) hsp tg tg a1 (.inr rfl)
  rcases hnew with⟨j,o,rfl,_,rfl⟩|⟨I4,rfl⟩
  .obtain⟨g,a,c',hg,rfl,ha1,ha2,hn,hcc,hoff,hkind⟩:=hvs.nU;obtain⟨k0,k1,k2,k3,ha2⟩:g.sz=size/\0<g.sz/\o+cap*g.sz=g.len/\g.off+o+c'*g.sz=g.top/\a.spot=none:=by
    rcases hkind with hk|hk
    .have:=hk.1;simp at this;omega
    .have:=hk.1;simp at this;exact⟨this.symm,hk.2.1,hk.2.2.1,hk.2.2.2⟩
   obtain⟨cs0,hcs⟩:∃cs,h.get j=some (.cells cs):=by
    unfold oV at hold;obtain⟨cs,q|q,_⟩:=FW hold
    .exact⟨cs,q⟩
    .have:=(hW.obj j g _ hg q).2.1;omega
   have hlive:h.get j≠none:=by rw[hcs];simp
   by_cases hfit:len+n<=c'
   .
    have hof:a=⟨g.b,g.off+o,none⟩:=by
     have:a.off=g.off+o:=by rcases hoff with hh|hh<;>omega
     obtain⟨ab,ao,as⟩:=a;simp only at ha1 ha2 this;rw[ha1,ha2,this]
    subst hof;obtain⟨q1,q2,q3,q5,q6,q7⟩:=hW.obj j g _ hg hcs;rw[k0]at k1 k2 k3;have hmul:len*size+n*size=(len+n)*size:=(xB _ _ _).symm;have av3:(len+n)*size<=c'*size:=Nat.mul_le_mul_right _ hfit;have hin:∀j,j<xs'.length->g.off+o+len*size+j<g.top:=λj hj=>by omega
    have hone:∀v∈xs',v.oneCell'=true:=λv hv'=>by
     obtain⟨j,hj⟩:=iI hv';have hjl:j<xs.length:=by
      rcases MS j xs'.length with hh|hh
      .omega
      .rw[iJ hh]at hj;cases hj
     obtain⟨v2,hv2,hr⟩:=x1.get (bY hjl);rw[hv2]at hj;cases hj;have hc:=(jN.1 x2) _ (rY hjl);obtain⟨a,b⟩:=hr.cellV hc;cases v<;>first|rfl|exact absurd rfl (a _)|exact absurd rfl (b _)
    have hrun:(storeCells ((⟨g.b,g.off+o,none⟩:Addr).add (len*size)) xs').run P w=.ok () (w.setCells g.b (g.off+o+len*size) xs'):=by
     rw[addr_add];have:=run_storeCells_cells (P:=P) g.b (g.off+o+len*size) xs' 0 w (λj hj=>(q5 _ (hin j hj)).1) (λj hj=>(q5 _ (hin j hj)).2) hone;simpa using this
    obtain⟨hsz,hother,hsame,DN,hos,hout⟩:=RG (w:=w) g.b (g.off+o+len*size) xs';refine⟨_,β.add h.next ⟨g.b,g.off+o,(len+n)*size,g.top,size⟩,_,RH h0 h1 hu hxd hni hs x4 hfit (x5 w rfl) hrun,?_,?_⟩
    .refine VR.qf (g:=⟨g.b,g.off+o,(len+n)*size,g.top,size⟩) (aI.lY _ _ _) rfl rfl (bI _) hsp tg tx hfit (.inr rfl)
    .rw[jO];have hdr:w.drawn<=(w.setCells g.b (g.off+o+len*size) xs').drawn:=by rw[IJ];exact bI _
     refine hW.Xh hg hlive (by rw[hcs];intro cs e;cases e) (.cells (old++xs)) ⟨g.b,g.off+o,(len+n)*size,g.top,size⟩ rfl hsz hother hos DN hout hdr ?_;have hle:=aI.xQ (β:=β) (i:=h.next) ⟨g.b,g.off+o,(len+n)*size,g.top,size⟩ hW.y8;refine⟨hsame q1,?_,?_,?_,by simp[o2,x2],?_⟩
     .show(old++xs).length=(len+n)*size;rw[fV,o3,x3,xB]
     .show g.off+o+(len+n)*size<=g.top;omega
     .intro j hj;refine⟨?_,by rw[MU];exact(q5 j hj).2⟩;by_cases hr:g.off+o+len*size<=j/\j<g.off+o+len*size+xs'.length
      .have:=Fh g.b xs' (g.off+o+len*size) w (λk hk=>(q5 _ (hin k hk)).1) (j - (g.off+o+len*size)) tf;rw[show g.off+o+len*size+(j - (g.off+o+len*size))=j by omega]at this;rw[this];simp
      .rw[Bv g.b xs' (g.off+o+len*size) w ⟨g.b,j,none⟩ (λ_ _=>by simp;omega)];exact(q5 j hj).1
     .intro j v hj;show∃v',(w.setCells g.b (g.off+o+len*size) xs').cell? ⟨g.b,g.off+o+j,none⟩=some v'/\VR _ v v';by_cases hjo:j<old.length
      .rw[pX hjo]at hj;obtain⟨av4,r1,r2⟩:=FW (by unfold oV at hold;exact hold);rw[hcs]at r1;rcases r1 with r1|r1<;>cases r1
       rw[show len.mul size=len*size from rfl,o9,o8]at r2;split at r2
       .simp only[bz]at r2;have hj2:cs0[o+j]? =some v:=by
         rw[<- r2,vZ,if_pos tf,rZ]at hj;exact hj
        obtain⟨v',t1,t2⟩:=q7 (o+j) v hj2;refine⟨v',?_,t2.mono hle⟩;rw[Bv g.b xs' (g.off+o+len*size) w ⟨g.b,g.off+o+j,none⟩ (λ_ _=>by simp;omega)];rw[oq];exact t1
       .cases r2
      .rw[tO tf]at hj;obtain⟨v',t1,t2⟩:=x1.get hj;refine⟨v',?_,t2.mono hle⟩;have hlt:j - old.length<xs'.length:=by
        rcases MS (j - old.length) xs'.length with hh|hh
        .exact hh
        .rw[iJ hh]at t1;cases t1
       have:=Fh g.b xs' (g.off+o+len*size) w (λk hk=>(q5 _ (hin k hk)).1) (j - old.length) hlt;rw[show g.off+o+len*size+(j - old.length)=g.off+o+j by omega]at this;rw[this,<- t1,bY hlt]
   .obtain⟨d1,d2⟩:=hW.drop hg;exact hfresh _ c' (h.kill j) rfl tf rfl d1 d2 rfl
  .have hs':∃base',s'=.slice base' len cap:=by
    cases hvs with
    |sl0=>exact⟨_,rfl⟩
    |ay=>exact⟨_,rfl⟩
    | @qf i' o' n' c1 c1' g' a' _ _ _ _ hz' _ _ _ _=>
      exfalso
      obtain⟨k,hk⟩:∃k,g'.sz=k+1:=⟨g'.sz - 1,tf⟩
      rw[hk]at I4;exact I4 _ _ k rfl
   obtain⟨base',rfl⟩:=hs';exact hfresh base' cap h rfl tf rfl hW (Eff.refl _ _ _ hW.dom) rfl
variable{k:IntKind}
def ag1(h0:ats[0]? =some st)(h1:ats[1]? =some xt)(hu:P.underlying st=some (.slice e))(hx:P.underlying xt=some (.int k))
 (hs:kw P e=some size) (hsp:0<size) (hi:P.info? e=some i) (hz:i.zero=some z) (hzl:z.cells.size=size) {m:Nat} (hm:0<m) (hb:0<i.bytes) (hfit:m*i.bytes<=1073741824):
 ∃c rest,m<=c/\rest.length=(c - m)*size/\
  (Builtin.append_ ats ty #[.slice none 0 0,.int .i64 (m:Int)]).run P w=.ok (.slice (some ⟨w.heap.size,0,none⟩) m c) {w.drew with heap:=w.heap.push (.cells ⟨(Builtin.zeroCells z.cells m).toList++rest⟩ e)}:=by
 have hnb:m<=m*i.bytes:=Nat.le_mul_of_pos_right _ hb;have h48':¬(281474976710656<Builtin.nextslicecap m 0*i.bytes):=by
  have:=growslice_fits (need:=m) (old:=0) (bytes:=i.bytes) tf tf;omega
 have hw:IntKind.i64.wrap (m:Int)=(m:Int):=IntWalk.i64_in (m:Int) (by grind);have hbi:¬((281474976710656:Int)<(m:Int)*(i.bytes:Int)):=by
  grind
 have hneg:¬((m:Int)<0):=tf
 have hms:¬(m*size=0):=by
  have:=Nat.mul_pos hm hsp;omega
 have hm0:¬(m=0):=tf
 have hs0:¬(size=0):=tf
 have h63':¬((9223372036854775807:Int)<(m:Int)):=tf
 refine⟨grownCap w m 0 e,(Builtin.zeroCells z.cells (grownCap w m 0 e - m)).toList,?_,?_,?_⟩
 .unfold grownCap Question.cut;grind
 .simp[Builtin.zeroCells,hzl]
 .have hsz:i.size=size:=by simpa[kw,hi]using hs
  simp[Builtin.append_,h0,h1,gU hu,gU hx,sizeOf,typeInfo,zeroValue,hi,hz,hw,hbi,hneg,hms,hm0,hs0,h63',h48',Question.forced,hsz,newRow,grownCap,asInt,asIntOf,Builtin.firstCells];have:∀Y Z:Array ah,Y++Z=⟨Y.toList++Z.toList⟩:=(by grind)
  rw[this];rfl
def ag2{zv:ah}{z:ae ah}(h0:ats[0]? =some st)(h1:ats[1]? =some xt)(hu:P.underlying st=some (.slice e))(hxd:P.underlying xt=some (.int k))
 (hs:kw P e=some size) (hsp:0<size) (hi:P.info? e=some i) (hz:i.zero=some zv) (hzc:zv.cells=⟨z⟩) (hfr:gJ z=true) (hzl:z.length=size) (hb:0<i.bytes) {m:Nat} (hm:0<m) (hfit:m*i.bytes<=1073741824) (hW:WR P β h w):
 ∃w' β' v',(Builtin.append_ ats ty #[.slice none 0 0,.int .i64 (m:Int)]).run P w=.ok v' w'/\VR β' (.slice (some ⟨h.next,0,some size⟩) m m) v'/\WR P β' (h.new (.cells (zeros z m))) w'/\Eff β h w β' (h.new (.cells (zeros z m))) w':=by
 have hzs:zv.cells.size=size:=by rw[hzc];exact hzl
 have IM:z≠[]:=(by grind)
 obtain⟨cc,rest,a1,a2,a3⟩:=ag1 h0 h1 hu hxd hs hsp hi hz hzs hm hb hfit;have hrow:(Builtin.zeroCells zv.cells m).toList=zeros z m:=by
  unfold Builtin.zeroCells;have:=Nl z m IM
  grind
 rw[hrow]at a3;have hcap2:m+(cc - m)=cc:=tf
 have hlen:(zeros z m).length=m*size:=by rw[zeros_length,hzl]
 have hmul:m*size+rest.length=cc*size:=by grind
 have hW3:WR P β h w.drew:=hW.qg rfl;have RJ:Eff β h w β h w.drew:=Eff.qg hW.dom rfl rfl rfl rfl;have hcells:=OR.IK (P:=P) (β:=β.add h.next ⟨w.heap.size,0,m*size,cc*size,size⟩) (w:=w.drew) e
  (aY.free (BU hfr m)) (xP (BU hfr m)) rest size
 have hcells:OR P (β.add h.next ⟨w.heap.size,0,m*size,cc*size,size⟩) ⟨w.heap.size,0,m*size,cc*size,size⟩ {w.drew with heap:=w.drew.heap.push (.cells ⟨zeros z m++rest⟩ e)} (.cells (zeros z m)):=by
  rw[hlen,hmul]at hcells;exact hcells
 obtain⟨b1,b2⟩:=hW3.alloc (.cells (zeros z m)) (.cells ⟨zeros z m++rest⟩ e) ⟨w.heap.size,0,m*size,cc*size,size⟩ rfl rfl hcells;refine⟨_,_,_,a3,?_,b1,RJ.trans b2⟩;have hb:=aI.lY β h.next ⟨w.heap.size,0,m*size,cc*size,size⟩
 exact VR.qf hb rfl rfl (bI _) hsp tg tg a1 (.inr rfl)
variable{args:Array az}{x:az}
def ag3{s:az}(ha:args.toList=[s,x])(hc:cop P ⟨dst,.call {callee:=.builtin .append,args,argTypes:=ats},type,pos,after,guard⟩=some c)
 (hr:c.run P ρ h=some (v,h')) (hs:VR β (ρ s) (ρ' s)) (hx:VR β (ρ x) (ρ' x)) (hW:WR P β h w):
 Good P β h w (execOp ρ' ⟨dst,.call {callee:=.builtin .append,args,argTypes:=ats},type,pos,after,guard⟩) v h':=by
 obtain rfl:args= #[s,x]:=by grind
 rw[DW];have hm:(#[s,x].map ρ')= #[ρ' s,ρ' x]:=tg
 rw[hm];simp only[cop]at hc;split at hc
 .rename_i st xt h0 h1;split at hc
  .rename_i e xd hu hxd;split at hc
   .rename_i size b z hsz hb hz;by_cases hint:∃k,xd=.int k
    .obtain⟨k,rfl⟩:=hint;have hc':c=.M5 e size (b+1) z s x:=by
      grind
     subst hc';obtain⟨zv,i,i1,i2,i3,i4,i5⟩:=BS hz;obtain⟨hs1,hs2⟩:=wD hsz;have hzl:z.length=size:=by
      grind
     have hib:i.bytes=b+1:=by grind
     simp only[aK.run]at hr;split at hr
     .rename_i n hns hnx;rw[hns]at hs;rw[hnx]at hx;have hs':ρ' s=.slice none 0 0:=by
       generalize ρ' s=q at hs;cases hs;rfl
      have hx':ρ' x=.int .i64 ((n+1:Nat):Int):=by
       generalize ρ' x=q at hx;cases hx;rfl
      rw[hs',hx'];cases hcond:(Nat.ble (Nat.mul (n+1) (b+1)) small&&Nat.ble (Nat.mul (n+1) size) small&&Nat.ble (n+1) small)with
      |false=>grind
      |true=>
       rw[hcond]at hr;obtain⟨rfl,rfl⟩:=hr;simp only[eU]at hcond;have hfit:=mG hcond.1.1;obtain⟨w',β',v',r1,r2,r3,r4⟩:=ag2 (ty:=type) h0 h1 hu hxd hs1 hs2 i1 i2 i3 i4 hzl tf (m:=n+1) tf (by rw[hib];exact hfit) hW;exact r8
     .cases hr
    have hni:∀k,xd≠.int k:=(by grind)
    have hc':c=.append e size (b+1) s x:=by
     grind
    subst hc';obtain⟨zv,i,i1,i2,i3,i4,i5⟩:=BS hz;obtain⟨hs1,hs2⟩:=wD hsz;have hzl:zv.cells.size=size:=by
     grind
    have hib:i.bytes=b+1:=by grind
    simp only[aK.run]at hr;split at hr
    .rename_i n hn;split at hr
     .rename_i xs hxs;rw[<- hib]at hr;obtain⟨w',β',v',r1,r2,r3,r4⟩:=ag0 (ty:=type) h0 h1 hu hxd hni hs1 hs2 i1 i2 hzl tf hn hxs hr hs hx hW;exact r8
     .cases hr
    .cases hr
   .cases hc
  .cases hc
 .cases hc
def ag4{d:az}(ha:args.toList=[d,x])(hc:cop P ⟨dst,.call {callee:=.builtin .copy,args,argTypes:=ats},type,pos,after,guard⟩=some c)
 (hr:c.run P ρ h=some (v,h')) (hd:VR β (ρ d) (ρ' d)) (hx:VR β (ρ x) (ρ' x)) (hW:WR P β h w):
 Good P β h w (execOp ρ' ⟨dst,.call {callee:=.builtin .copy,args,argTypes:=ats},type,pos,after,guard⟩) v h':=by
 obtain rfl:args= #[d,x]:=by grind
 rw[DW];have hm:(#[d,x].map ρ')= #[ρ' d,ρ' x]:=tg
 rw[hm];simp only[cop]at hc;split at hc
 .rename_i dt h0;split at hc
  .rename_i e hu;cases hsz:qc P e with
   |none=>simp[hsz]at hc
   |some size=>
    simp only[hsz,om,bz]at hc;subst hc;obtain⟨hs1,hs2⟩:=wD hsz;simp only[aK.run]at hr;unfold WY at hr;split at hr
    .rename_i base tY ag5 m hdv hl;simp only at hr;split at hr
     .cases hr
     .rename_i cs hcs;have hn:(cond (Nat.ble m tY) m tY)=Nat.min m tY:=by
       cases hb:Nat.ble m tY with
       |true=>have:=mG hb;grind
       |false=>
        have:¬m<=tY:=λhh=>by rw[MP hh]at hb;cases hb
        grind
      rw[hn]at hr hcs;obtain⟨cs',x1,x2,x3,x4,x5⟩:=Nr hcs hl (Nat.min_le_left _ _) hx hW;rw[hdv]at hd;have hmn:m.min tY=min m tY:=rfl;split at hr
      .rename_i i o f;split at hr
       .rename_i h2 hst;obtain⟨rfl,rfl⟩:=hr;obtain⟨g,a,c',hg,hd',ha1,ha2,hnc,hcc,hoff,_⟩:=hd.nU;have I1:cs=[]\/(a.off=g.off+o/\a.spot=none):=by
         rcases hoff with hh|hh
         .left;have h00:m.min tY=0:=by rw[hmn];omega
          rw[h00]at x3
          grind
         .exact .inr hh
        obtain⟨w',p1,p2,p3⟩:=RI (d:=0) hW hg ha1 I1 hst x1 x2;have p1:=p1 0 rfl;have hadd:a.add 0=a:=by
         simp[Addr.add]
        rw[hadd]at p1;refine⟨.value (goInt (m.min tY)),w',β,_,?_,.inl rfl,.int _ _,p2,p3⟩;simp only[builtin];refine Af ?_;simp only[Builtin.copy_,h0,QS,Fq,Ia,hd',dS,gU hu,eX,x4,pg hs1,x5 w rfl,p1,fM]
       .cases hr
      .split at hr
       .rename_i hn0;obtain⟨rfl,rfl⟩:=hr;have hd':ρ' d=.slice none tY ag5:=by generalize ρ' d=y at hd;cases hd;rfl
        refine Good.same hW (v':=goInt (m.min tY)) ?_ (by rw[hn0];exact .int _ _);simp only[builtin];refine Af ?_;simp only[Builtin.copy_,h0,QS,Fq,Ia,hd',dS,gU hu,eX,x4,pg hs1,x5 w rfl,fM]
       .cases hr
    .cases hr
  .cases hc
 .cases hc
def ag6(ha:args.toList=[x])(hc:cop P ⟨dst,.call {callee:=.builtin .clear,args,argTypes:=ats},type,pos,after,guard⟩=some c)
 (hr:c.run P ρ h=some (v,h')) (hx:VR β (ρ x) (ρ' x)) (hW:WR P β h w):
 Good P β h w (execOp ρ' ⟨dst,.call {callee:=.builtin .clear,args,argTypes:=ats},type,pos,after,guard⟩) v h':=by
 obtain rfl:args= #[x]:=by grind
 rw[DW];have hm:(#[x].map ρ')= #[ρ' x]:=tg
 rw[hm];simp only[cop]at hc;split at hc
 .rename_i t h0;split at hc
  .rename_i e hu;split at hc
   .rename_i z zs hz;simp only[bz]at hc;subst hc;obtain⟨zv,i,hi,hzv,hzc,hfr,_⟩:=BS hz;simp only[aK.run]at hr;split at hr
    .rename_i j o f n c hxv;split at hr
     .rename_i h2 hst;obtain⟨rfl,rfl⟩:=hr;rw[hxv]at hx;obtain⟨g,a,c',hg,hx',ha1,ha2,hnc,hcc,hoff,_⟩:=hx.nU;have I1:zeros (z::zs) (n+1)=[]\/(a.off=g.off+o/\a.spot=none):=by
       grind
      obtain⟨w',p1,p2,p3⟩:=RI (d:=0) hW hg ha1 I1 hst (aY.free (BU hfr (n+1))) (xP (BU hfr (n+1)));have p1:=p1 0 rfl;have hadd:a.add 0=a:=by
       simp[Addr.add]
      rw[hadd]at p1;have hrow:(Builtin.zeroCells zv.cells (n+1)).toList=zeros (z::zs) (n+1):=by
       unfold Builtin.zeroCells;rw[hzc];have:=Nl (z::zs) (n+1) tg
       grind
      refine⟨.value (.tuple #[]),w',β,_,?_,.inl rfl,.eO _,p2,p3⟩;simp only[builtin];refine Af ?_;simp only[Builtin.clear_,h0,QS,Fq,hx',dS,gU hu,eX,zeroValue,typeInfo,hi,hzv,run_program,fM,hrow,p1]
     .cases hr
    .rename_i base c hxv;obtain⟨rfl,rfl⟩:=hr;rw[hxv]at hx;have hx':∃base' c',ρ' x=.slice base' 0 c':=by
      generalize ρ' x=y at hx;cases hx<;>exact⟨_,_,rfl⟩
     obtain⟨base',c',hx'⟩:=hx';refine Good.same hW (v':=.tuple #[]) ?_ (.eO _);simp only[builtin];refine Af ?_;cases base'<;>simp only[Builtin.clear_,h0,QS,Fq,hx',dS,gU hu,eX,fM]
    .cases hr
   .cases hc
  .cases hc
 .cases hc
end
end Go.Ideal
namespace Go.Ideal
variable {P:Program} {β:aI} {h:IH} {w:World}
variable{v:ah}{h':IH}
def XC{x:ak ((Nat->ah)×aN)}(hr:uf x h=some (v,h')):∃f ob,x=some (f,ob)/\v=f h.next/\h'=h.new ob:=by
 unfold uf at hr
 grind
def aK.makes:aK->Bool
 | .new .. | .box .. | .yX .. | .yY| .xK .. =>true
 |_=>false
variable{c:aK}
def aK.XD(hm:c.makes=true)(ρ:az->ah)(h:IH):c.run P ρ h=uf (c.alloc ρ) h:=by
 cases c<;>first|rfl|cases hm
variable{o:Oper}{ρ ρ':az->ah}
def XE{f:Nat->ah}{ob:aN}(hm:c.makes=true)(hc:cop P o=some c)(hρ:∀x∈o.op.operands,VR β (ρ x) (ρ' x))(ha:c.alloc ρ=some (f,ob)):xR P β w (execOp ρ' o) f ob:=by
 obtain⟨dst,op,type,pos,after,guard⟩:=o;cases op
 case alloc e=>exact af7 hc ha
 case box e x=>exact af8 hc ha (hρ x tt)
 case buildSlice t n ps=>exact agd hc ha λp hp=>hρ p.2 xf
 case makeMap t r=>exact af9 hc ha
 case makeSlice t l k=>exact agb hc ha (hρ l tt) (hρ k tt)
 all_goals
  exfalso
  revert hm;simp only[cop]at hc;repeat' split at hc
  all_goals first
   |contradiction
   |(cases hc;done)
   |(simp only[bz,lq,reduceCtorEq,false_and,and_false,exists_false]at hc;done)
   |(simp only[bz]at hc;subst hc;intro hm;cases hm)
   |(simp only[lq]at hc;obtain⟨_,_,rfl⟩:=hc;intro hm;cases hm)
def XF(hc:cop P o=some c)(hρ:∀x∈o.op.operands,VR β (ρ x) (ρ' x))(hr:c.run P ρ h=some (v,h'))(hW:WR P β h w):
 Good P β h w (execOp ρ' o) v h':=by
 by_cases hm:c.makes=true
 .rw[aK.XD hm]at hr;obtain⟨f,ob,ha,rfl,rfl⟩:=XC hr;exact(XE hm hc hρ ha).good hW
 obtain⟨dst,op,type,pos,after,guard⟩:=o;cases op
 case move x=>exact age hc hr (hρ x tt) hW
 case assign x=>exact agf hc hr (hρ x tt) hW
 case pick x y z=>exact agh hc hr (hρ x tt) (hρ y tt) (hρ z tt) hW
 case build t ps=>exact agj hc hr (λp hp=>hρ p.2 xf) hW
 case load t a=>exact agk hc hr (hρ a tt) hW
 case store t a x=>exact agl hc hr (hρ a tt) (hρ x tt) hW
 case nilCheck x=>exact agm hc hr (hρ x tt) hW
 case binOp op t x y yt=>exact agq hc hr (hρ x tt) (hρ y tt) hW
 case unOp op t x=>exact agr hc hr (hρ x tt) hW
 case convert s d x=>exact agS hc hr (hρ x tt) hW
 case makeInterface t x=>exact agt hc hr (hρ x tt) hW
 case makeFunc fn first captured=>exact agu hc hr (λx hx=>hρ x BE) (λx hx=>hρ x BE) hW
 case slice t x lo hi mx=>exact agA hc hr (hρ x tt) (λy hy=>hρ y ux) (λy hy=>hρ y ux) (λy hy=>hρ y ux) hW
 case fieldAddr s x f=>exact agw hc hr (hρ x tt) hW
 case field t x f=>exact agx hc hr (hρ x tt) hW
 case indexAddr t x y=>exact agy hc hr (hρ x tt) (hρ y tt) hW
 case index t x y=>exact agT hc hr (hρ x tt) (hρ y tt) hW
 case lookup t m k ok=>exact agH hc hr (hρ m tt) (hρ k tt) hW
 case mapUpdate t m k x=>exact agJ hc hr (hρ m tt) (hρ k tt) (hρ x tt) hW
 case insert t m k x=>exact agK hc hr (hρ m tt) (hρ k tt) (hρ x tt) hW
 case range t x=>exact agL hc hr (hρ x tt) hW
 case entry x=>exact agM hc hr (hρ x tt) hW
 case typeAssert x xt t ok=>exact agN hc hr (hρ x tt) hW
 case extract x i=>exact agz hc hr (hρ x tt) hW
 case next it s=>
  cases s with
  |true=>simp[cop]at hc
  |false=>simp only[cop,bz]at hc;subst hc;cases hr
 case panic x=>simp only[cop,bz]at hc;subst hc;cases hr
 case defer cl=>
  obtain⟨callee,args,ats⟩:=cl;cases callee with
  |value f=>simp only[cop,bz]at hc;subst hc;cases hr
  |invoke x n=>simp[cop]at hc
  |builtin b=>simp[cop]at hc
 case call cl=>
  obtain⟨callee,args,ats⟩:=cl;cases callee with
  |value f=>simp only[cop,bz]at hc;subst hc;cases hr
  |invoke x n=>simp only[cop,bz]at hc;subst hc;cases hr
  |builtin b=>
   have hargs:∀x∈args.toList,VR β (ρ x) (ρ' x):=λx hx=>hρ x (by simp only[Op.operands,Call.operands,Ib];grind);cases b
   case append=>
    cases ha:args.toList with
    |nil=>simp[cop,ha]at hc
    |cons s r=>cases r with
     |nil=>simp[cop,ha]at hc
     |cons x r=>cases r with
      |nil=>exact ag3 ha hc hr (by grind) (by grind) hW
      |cons y r=>simp[cop,ha]at hc
   case copy=>
    cases ha:args.toList with
    |nil=>simp[cop,ha]at hc
    |cons s r=>cases r with
     |nil=>simp[cop,ha]at hc
     |cons x r=>cases r with
      |nil=>exact ag4 ha hc hr (by grind) (by grind) hW
      |cons y r=>simp[cop,ha]at hc
   case clear=>
    cases ha:args.toList with
    |nil=>simp[cop,ha]at hc
    |cons s r=>cases r with
     |nil=>exact ag6 ha hc hr (by grind) hW
     |cons y r=>simp[cop,ha]at hc
   case len=>
    cases ha:args.toList with
    |nil=>simp[cop,ha]at hc
    |cons s r=>cases r with
     |nil=>exact agU ha hc hr (by grind) hW
     |cons y r=>simp[cop,ha]at hc
   case cap=>
    cases ha:args.toList with
    |nil=>simp[cop,ha]at hc
    |cons s r=>cases r with
     |nil=>exact agV ha hc hr (by grind) hW
     |cons y r=>simp[cop,ha]at hc
   case min=>exact XB (.inl rfl) hc hr hargs hW
   case max=>exact XB (.inr rfl) hc hr hargs hW
   case recover=>simp only[cop,bz]at hc;subst hc;cases hr
   case panic=>
    cases ha:args.toList with
    |nil=>simp[cop,ha]at hc
    |cons s r=>cases r with
     |nil=>simp only[cop,ha,bz]at hc;subst hc;cases hr
     |cons y r=>simp[cop,ha]at hc
   all_goals (simp[cop]at hc)
 all_goals
  exfalso
  first
   |(simp[cop]at hc;done)
   |(apply hm
     simp only[cop]at hc;repeat' split at hc
     all_goals first
      |contradiction
      |(cases hc;done)
      |(simp only[bz]at hc;subst hc;rfl)
      |(simp only[lq]at hc;obtain⟨_,_,rfl⟩:=hc;rfl))
end Go.Ideal
namespace Go.Ideal
variable {P:Program} {β:aI} {h:IH} {w:World}
inductive qP(β:aI):List PanicEntry->List PanicEntry->Prop
 |nil:qP β [] []
 |cons {e e':PanicEntry} {l l':List PanicEntry} (hv:VR β e.v e'.v) (hr:e'.recovered=e.recovered) (hg:e'.goexit=e.goexit) (hl:qP β l l'):qP β (e::l) (e'::l')
variable{β':aI}
def qP.mono{β:aI}(h:β.le β'){l l':ae PanicEntry}(k:qP β l l'):qP β' l l':=by
 induction k with
 |nil=>exact .nil
 |cons hv hr hg _ ih=>exact .cons (hv.mono h) hr hg ih
def qP.append{l l' r r':ae PanicEntry}(k:qP β l l')(k2:qP β r r'):qP β (l++r) (l'++r'):=by
 induction k with
 |nil=>exact k2
 |cons hv hr hg _ ih=>exact .cons hv hr hg ih
inductive MR(β:aI):FrameMode->FrameMode->Prop
 |run:MR β .run .run
 |returning:MR β .returning .returning
 |panicking {l l':List PanicEntry} (h:qP β l l'):MR β (.panicking l) (.panicking l')
def MR.mono{β:aI}(h:β.le β'){m m':FrameMode}(k:MR β m m'):MR β' m m':=by
 cases k with
 |run=>exact .run
 |returning=>exact .returning
 |panicking k=>exact .panicking (k.mono h)
inductive wF(β:aI):List Deferred->List Deferred->Prop
 |nil:wF β [] []
 |fn {fn fn':Fn} {c c' a a':List Value} {l l':List Deferred} (hf:FR β fn fn') (hc:aY β c c') (ha:aY β a a') (hl:wF β l l'):wF β ({target:=.fn fn ⟨c⟩,args:=⟨a⟩}::l) ({target:=.fn fn' ⟨c'⟩,args:=⟨a'⟩}::l')
 |coll {r:Nat} {g:jf} {a a':Array Value} {l l':List Deferred} (hr:β r=some g) (hl:wF β l l'):wF β ({target:=.collected r,args:=a}::l) ({target:=.collected g.b,args:=a'}::l')
def wF.mono{β:aI}(h:β.le β'){l l':ae Deferred}(k:wF β l l'):wF β' l l':=by
 induction k with
 |nil=>exact .nil
 |fn hf hc ha _ ih=>exact .fn (hf.mono h) (hc.mono h) (ha.mono h) ih
 |coll hr _ ih=>exact .coll (h _ _ hr) ih
structure AR(β:aI)(X:Nat->Prop)(a:bB)(tm:Array Value)(df:List Deferred):Prop where
 size:tm.size=a.n
 tmps:∀i,¬X i->VR β (dU a.tmps i) (tm.getD i undef)
 out:∀i,a.n<=i->dU a.tmps i=eO
 defers:wF β a.defers df
def none':Nat->Prop:=λ_=>False
def AR.mono{β:aI}(h:β.le β'){X:Nat->Prop}{a:bB}{tm:Array ah}{df:ae Deferred}(k:AR β X a tm df):AR β' X a tm df:=
 ⟨k.size,λi hi=>(k.tmps i hi).mono h,k.out,k.defers.mono h⟩
def Ns(P:Program)(g:Nat):Nat:=((P.globals[g]?).map λx=>P.cellsOf x.type).getD 0
def lZ(P:Program)(β:aI):Prop:=∀g,g<P.globals.size->∃i,β g=some i/\i.b=g/\i.off=0/\i.top=Ns P g
variable{X:Nat->Prop}{a:bB}{tm:Array ah}{df:ae Deferred}
def AR.eval{iF:ae Deferred}(k:AR β X a tm df)(hG:lZ P β){x:az}(hok:FE P x=true)(hx:∀t,x=.tmp t->¬X t):VR β (a.eval x) (Act.eval ⟨tm,iF⟩ x):=by
 cases x with
 |tmp t=>exact k.tmps t (hx t rfl)
 |const v=>
  unfold FE at hok;split at hok
  .rename_i he;simp only[Operand.const.injEq]at he;subst he;exact .eO _
  .rename_i he;simp only[Operand.const.injEq]at he;subst he;exact VR.free hok
  .rename_i he;cases he
  grind
 |global g=>
  have hlt:g<P.globals.size:=by
   have:Nat.blt g P.globals.size=true:=hok;simpa[vY]using this
  obtain⟨i,hi,h1,h2,_⟩:=hG g hlt;have:=VR.ptr (o:=0) hi;rw[h1,h2]at this;exact this
 |func f=>exact .func (.func f) .nil .nil
def Nt(tm:Array ah)(d:Nat)(v:ah)(j:Nat)(hd:d<tm.size):(tm.setIfInBounds d v).getD j undef=if j=d then v else tm.getD j undef:=by
 simp only[zY]
 grind
def AR.put(k:AR β X a tm df)(d:ak Tmp){v v':ah}(hv:VR β v v'):
 AR β (λi=>X i/\d≠some i) (a.put d v) (match d with|some d=>tm.setIfInBounds d v'|none=>tm) df:=by
 cases d with
 |none=>exact⟨k.size,λi hi=>k.tmps i (by grind),k.out,k.defers⟩
 |some d=>
  show AR β _ (a.set d v) _ df;unfold bB.set;cases hb:Nat.blt d a.n with
  |false=>
   have hge:a.n<=d:=by
    rcases MS d a.n with hh|hh
    .have:Nat.blt d a.n=true:=by simpa[vY]using hh
     grind
    .exact hh
   have hs:=k.size;have he:tm.setIfInBounds d v'=tm:=by
    grind
   simp only[cond_false];rw[he];refine⟨hs,λi hi=>?_,k.out,k.defers⟩;by_cases hx:X i
   .have hid:i=d:=by
     grind
    subst hid;rw[k.out i hge];exact .eO _
   .exact k.tmps i hx
  |true=>
   have hlt: @LT.lt Nat _ d a.n:=tW
   have hs:=k.size;simp only[cond_true];refine⟨by simpa using hs,λi hi=>?_,λi hi=>?_,k.defers⟩
   rotate_left
   .rw[FO,if_neg (by grind)];exact k.out i hi
   rw[FO,Nt tm d v' i tf];by_cases hid:i=d
   .grind
   .rw[if_neg hid,if_neg hid];exact k.tmps i (by grind)
end Go.Ideal
namespace Go.Ideal
variable {P:Program} {β:aI} {h:IH} {w:World}
def fr(b:Frame)(tm:Array ah)(df:ae Deferred)(todo:ae Item):Frame:={b with tmps:=tm,todo:=todo,defers:=df,mode:=.run}
section
variable {b:Frame} {tm:Array ah} {df:ae Deferred} {k:ae Item} {cs:ae Frame}
def XG(todo:ae Item):(fr b tm df todo).eval=Act.eval ⟨tm,df⟩:=funext λx=>by cases x<;>rfl
def ag7:step P (lone (fr b tm df (.code .skip::k)) cs w)=.next (lone (fr b tm df k) cs w):=step_lone_go tG
def ag8{l:Nat}:step P (lone (fr b tm df (.code (.label l)::k)) cs w)=.next (lone (fr b tm df k) cs w):=step_lone_go tG
variable{id:Nat}
def ag9:step P (lone (fr b tm df (.inBlock id::k)) cs w)=.next (lone (fr b tm df k) cs w):=step_lone_go tG
variable{c:Code}
def aha:step P (lone (fr b tm df (.inScope c::k)) cs w)=.next (lone (fr b tm df k) cs w):=step_lone_go tG
variable{x y:Code}
def Nu:step P (lone (fr b tm df (.code (.seq x y)::k)) cs w)=.next (lone (fr b tm df (.code x::.code y::k)) cs w):=step_lone_go tG
def I5:step P (lone (fr b tm df (.code (.block id c)::k)) cs w)=.next (lone (fr b tm df (.code c::.inBlock id::k)) cs w):=step_lone_go tG
def ahb:step P (lone (fr b tm df (.code (.loop c)::k)) cs w)=.next (lone (fr b tm df (.code c::.inLoop c::k)) cs w):=step_lone_go tG
def ahc:step P (lone (fr b tm df (.inLoop c::k)) cs w)=.next (lone (fr b tm df (.code c::.inLoop c::k)) cs w):=step_lone_go tG
def Nv:step P (lone (fr b tm df (.code (.scope c)::k)) cs w)=.next (lone (fr b tm df (.code c::.inScope c::k)) cs w):=step_lone_go tG
def ahd{c:az}{t:Bool}(h:Act.eval ⟨tm,df⟩ c=.bool t):
 step P (lone (fr b tm df (.code (.cond c x y)::k)) cs w)=.next (lone (fr b tm df (.code (if t then x else y)::k)) cs w):=
 step_lone_go (by
  have he:=congrFun (XG (b:=b) (tm:=tm) (df:=df) (.code (.cond c x y)::k)) c;rw[h]at he;simp only[fr]at he;simp[stepG,stepG.exec,fr,he])
def ahe{k':ae Item}(h:exitTo id k=some k'):step P (lone (fr b tm df (.code (.exit id)::k)) cs w)=.next (lone (fr b tm df k') cs w):=
 step_lone_go (by simp[stepG,stepG.exec,fr,h])
def ahf(hr:b.roundOf=none):step P (lone (fr b tm df (.code .ret::k)) cs w)=.next (lone {fr b tm df (.code .ret::k)with mode:=.returning} cs w):=
 step_lone_go BT
def ahg(hr:b.roundOf=none):step P (lone (fr b tm df []) cs w)=.next (lone {fr b tm df []with mode:=.returning} cs w):=
 step_lone_go BT
variable{ops:Array Oper}
def ahh:step P (lone (fr b tm df (.code (.region id ops false)::k)) cs w)=.next (lone (fr b tm df (.inRegion ops (List.range ops.size)::k)) cs w):=
 step_lone_go tG
def ahi:step P (lone (fr b tm df (.code (.region id ops true)::k)) cs w)=
 .next (lone (fr b tm df (.inRegion ops (Region.schedule (P.follows .mixedOrders) ops (w.tape w.drawn (.order b.fn id)))::k)) cs {w with drawn:=w.drawn+1}):=
 step_lone_go (by simp[stepG,stepG.exec,fr,Sem.run,Question.forced,Question.cut])
def ahj:step P (lone (fr b tm df (.inRegion ops []::k)) cs w)=.next (lone (fr b tm df k) cs w):=
 step_lone_go tG
def sF(tm:Array ah)(d:ak Tmp)(v:ah):Array ah:=match d with|some d=>tm.setIfInBounds d v|none=>tm
variable{i:Nat}{rest:ae Nat}
def I6{v:ah}:(fr b tm df (.inRegion ops (i::rest)::k)).finish v=fr b (sF tm ((ops[i]?).bind (·.dst)) v) df (.inRegion ops rest::k):=by
 cases hd:(ops[i]?).bind (·.dst)<;>simp[Frame.finish,fr,sF,hd]
def XH(hn:((ops[i]?).map (Region.wanted · (yielded ops tm))).getD false=false):
 step P (lone (fr b tm df (.inRegion ops (i::rest)::k)) cs w)=.next (lone (fr b (sF tm ((ops[i]?).bind (·.dst)) undef) df (.inRegion ops rest::k)) cs w):=by
 rw[<- I6];exact step_lone_go (by
  have h':=hn;simp only[fr]at *;simp[stepG,stepG.exec,h'])
variable{o:Oper}
def DX(ho:ops[i]? =some o)(hw:Region.wanted o (yielded ops tm)=true)(hd:b.roundOf=none\/∀c,o.op≠.defer c):
 stepG P true {frame:=fr b tm df (.inRegion ops (i::rest)::k),callers:=cs,status:=.running,dying:=none} w=
  stepG.apply P true (fr b tm df (.inRegion ops (i::rest)::k)) cs none (execOp (Act.eval ⟨tm,df⟩) o) w:=by
 have he:=XG (b:=b) (tm:=tm) (df:=df) (.inRegion ops (i::rest)::k);simp only[fr]at he;simp only[stepG,fr,stepG.exec,stepG.oper,Frame.oper?]
 grind
def Nw(ho:ops[i]? =some o)(hw:Region.wanted o (yielded ops tm)=true)(hd:b.roundOf=none\/∀c,o.op≠.defer c){r:Next}{v:ah}{w':World}
 (hr:(execOp (Act.eval ⟨tm,df⟩) o).run P w=.ok r w') (hv:r=.value v\/(r=.skip/\v=undef)):
 step P (lone (fr b tm df (.inRegion ops (i::rest)::k)) cs w)=.next (lone (fr b (sF tm o.dst v) df (.inRegion ops rest::k)) cs w'):=by
 have hf:=I6 (b:=b) (tm:=tm) (df:=df) (k:=k) (ops:=ops) (i:=i) (rest:=rest) (v:=v);rw[ho]at hf;simp only[lm]at hf;rw[<- hf];refine step_lone_go ?_;rw[DX ho hw hd];rcases hv with rfl|⟨rfl,rfl⟩<;>simp[stepG.apply,hr]
def ahk(ho:ops[i]? =some o)(hw:Region.wanted o (yielded ops tm)=true)(hd:b.roundOf=none\/∀c,o.op≠.defer c){f:fI}{args:Array ah}{w':World}
 (hr:(execOp (Act.eval ⟨tm,df⟩) o).run P w=.ok (.enter f args) w'):
 step P (lone (fr b tm df (.inRegion ops (i::rest)::k)) cs w)=.next (lone (Frame.enter P f args .normal) (fr b tm df (.inRegion ops (i::rest)::k)::cs) w'):=by
 refine step_lone_go ?_;rw[DX ho hw hd];simp[stepG.apply,hr,fr]
def ahl(ho:ops[i]? =some o)(hw:Region.wanted o (yielded ops tm)=true)(hd:b.roundOf=none\/∀c,o.op≠.defer c){l:Nat}{f:fI}{tmps:Array ah}{x y:Code}{w':World}
 (hr:(execOp (Act.eval ⟨tm,df⟩) o).run P w=.ok (.round l f tmps x y) w'):
 step P (lone (fr b tm df (.inRegion ops (i::rest)::k)) cs w)=.next (lone (Frame.round l f tmps x y .normal) (fr b tm df (.inRegion ops (i::rest)::k)::cs) w'):=by
 refine step_lone_go ?_;rw[DX ho hw hd];simp[stepG.apply,hr]
def ahm(ho:ops[i]? =some o)(hw:Region.wanted o (yielded ops tm)=true)(hd:b.roundOf=none\/∀c,o.op≠.defer c){v:ah}{w':World}
 (hr:(execOp (Act.eval ⟨tm,df⟩) o).run P w=.halt (.panic v) w'):
 step P (lone (fr b tm df (.inRegion ops (i::rest)::k)) cs w)=.next (lone {fr b tm df (.inRegion ops (i::rest)::k)with mode:=.panicking [{v,recovered:=false}]} cs w'):=by
 refine step_lone_go ?_;rw[DX ho hw hd];simp[stepG.apply,hr,fr,Frame.raise]
def ahn(ho:ops[i]? =some o)(hw:Region.wanted o (yielded ops tm)=true)(hro:b.roundOf=none){d:Deferred}{w':World}
 (hr:(execOp (Act.eval ⟨tm,df⟩) o).run P w=.ok (.defer d) w'):
 step P (lone (fr b tm df (.inRegion ops (i::rest)::k)) cs w)=.next (lone (fr b (sF tm o.dst undef) (d::df) (.inRegion ops rest::k)) cs w'):=by
 have hf:=I6 (b:=b) (tm:=tm) (df:=d::df) (k:=k) (ops:=ops) (i:=i) (rest:=rest) (v:=undef);rw[ho]at hf;simp only[lm]at hf;rw[<- hf];refine step_lone_go ?_;rw[DX ho hw (.inl hro)];simp[stepG.apply,hr,fr]
def XI(ho:ops[i]? =some o)(hw:Region.wanted o (yielded ops tm)=true)(hro:b.roundOf=none){w':World}
 (hr:(execOp (Act.eval ⟨tm,df⟩) o).run P w=.ok .recover w'):
 step P (lone (fr b tm df (.inRegion ops (i::rest)::k)) cs w)=match tryRecover (fr b tm df (.inRegion ops (i::rest)::k)) cs with
  |some (v,cs')=>.next (lone (fr b (sF tm o.dst v) df (.inRegion ops rest::k)) cs' w')
  |none=>.next (lone (fr b (sF tm o.dst .nilIface) df (.inRegion ops rest::k)) cs w'):=by
 have hf:=λv=>I6 (b:=b) (tm:=tm) (df:=df) (k:=k) (ops:=ops) (i:=i) (rest:=rest) (v:=v);rw[ho]at hf;simp only[lm]at hf;have hre:(fr b tm df (.inRegion ops (i::rest)::k)).roundOf=none:=hro;cases ht:tryRecover (fr b tm df (.inRegion ops (i::rest)::k)) cs with
 |none=>
  exact oS
 |some p=>
  simp only;exact oS
end
end Go.Ideal
namespace Go.Ideal
variable {P:Program}
variable{ρ:az->ah}{h:IH}{c:aK}{v:ah}
def XJ{h':IH}(hl:heavy c=false)(hm:c.makes=false)(hr:c.run P ρ h=some (v,h')):h'=h:=by
 cases c<;>first|(cases hl;done)|(cases hm;done)|skip
 all_goals
  simp only[aK.run,Bool.cond_eq_ite]at hr;repeat' split at hr
  all_goals first
   |(cases hr;done)
   |(simp only[bz,kL]at hr;exact hr.2.symm)
variable{h2:IH}
def XK{m:ah}(hs:∀i o,h.get i=some o->h2.get i=some o){es:ae MapEntry}(he:entriesOf m h=some es):entriesOf m h2=some es:=by
 unfold entriesOf at he⊢
 grind
def aho(hl:heavy c=false)(hm:c.makes=false)(hs:∀i o,h.get i=some o->h2.get i=some o)(hr:c.run P ρ h=some (v,h)):c.run P ρ h2=some (v,h2):=by
 cases c<;>first|(cases hl;done)|(cases hm;done)|skip
 case fE a=>
  simp only[aK.run]at hr⊢;split at hr
  .split at hr
   .rename_i u hu;simp only[bz,kL,Dp]at hr;simp only[af3 hs hu,hr]
   .cases hr
  .cases hr
 case tX n a=>
  simp only[aK.run]at hr⊢;split at hr
  .split at hr
   .rename_i cs hg;simp only[Xl hs hg];exact pP
   .cases hr
  .cases hr
 case Il a=>
  simp only[aK.run]at hr⊢;split at hr
  .exact pP
  .split at hr
   .rename_i cs hg;simp only[Xl hs hg];split at hr
    .rename_i bs hb;simp only[bz,kL,Dp]at hr;simp only[hb,hr]
    .cases hr
   .cases hr
  .cases hr
 case lookup kt z m k ok=>
  simp only[aK.run,DD]at hr⊢;split at hr
  .rename_i u hu;split at hu
   .cases hu
   .rename_i es hes;simp only[XK hs hes];simp only[bz,kL,Dp]at hr;rw[hu];simp only[hr]
  .cases hr
 case M7 x=>
  simp only[aK.run]at hr⊢;split at hr
  .rename_i es hes;simp only[XK hs hes];exact pP
  .cases hr
 all_goals
  simp only[aK.run,Bool.cond_eq_ite]at hr⊢;repeat' split at hr
  all_goals first
   |(cases hr;done)
   |(simp only[bz,kL,Dp]at hr;subst hr;simp_all;done)
   |skip
def ahp(hl:∀i o,h.get i=some o->i<h.next)(ob:aN):∀i o,h.get i=some o->(h.new ob).get i=some o:=λi o hi=>by
 rw[IH.jA,if_neg (by grind)];exact hi
def ahq(hl:heavy c=false)(hm:c.makes=false)(hp:FH c=false)(hr:c.run P ρ h=some (v,h))(h2:IH):c.run P ρ h2=some (v,h2):=by
 cases c<;>first|(cases hl;done)|(cases hm;done)|(cases hp;done)|skip
 all_goals
  simp only[aK.run,Bool.cond_eq_ite]at hr⊢;repeat' split at hr
  all_goals first
   |(cases hr;done)
   |(simp only[bz,kL,Dp]at hr;subst hr;simp_all;done)
   |skip
variable{ρ':az->ah}
def RN:∀(parts:ae (Nat×Nat×az)) (z:ae ah),(∀p∈parts,ρ p.2.2=ρ' p.2.2)->uU ρ z parts=uU ρ' z parts:=by
 intro parts;induction parts with
 |nil=>intro z _;rfl
 |cons p parts ih=>
  intro z hp;obtain⟨off,size,x⟩:=p;rw[Rp,Rp,hp (off,size,x) tg]
  grind
def RO(l:ae az)(hp:∀x∈l,ρ x=ρ' x):nQ ρ l=nQ ρ' l:=by
 rw[xN,xN];exact yS hp
def ahr{fs:Array Field}:∀(l:ae (Nat×az)) (pc:ae (Nat×Nat×az)),BH P fs l=some pc->∀q∈pc,∃p∈l,q.2.2=p.2:=by
 intro l;induction l with
 |nil=>intro pc h q hq;simp only[BH,bz]at h;subst h;simp at hq
 |cons p l ih=>
  intro pc h q hq;obtain⟨i,x⟩:=p;simp only[BH]at h;split at h
  .split at h
   .simp only[bz]at h;subst h;rcases dB.1 hq with rfl|hq
    .exact⟨(i,x),tg,rfl⟩
    grind
   .cases h
  .cases h
def RP(x:ak az)(h:∀y,x=some y->ρ y=ρ' y):jw ρ x=jw ρ' x:=by
 cases x with
 |none=>rfl
 |some y=>simp[jw,h y rfl]
def FZ{o:Oper}(hc:cop P o=some c)(hρ:∀x∈o.op.operands,ρ x=ρ' x)(h:IH):c.run P ρ h=c.run P ρ' h/\c.alloc ρ=c.alloc ρ':=by
 obtain⟨dst,op,type,pos,after,guard⟩:=o;cases op
 case build t ps=>
  have hp:∀p∈ps.toList,ρ p.2=ρ' p.2:=λp hp=>hρ p.2 xf;simp only[cop]at hc;split at hc
  .rename_i fs z _ _;split at hc
   .rename_i pc hpc;simp only[bz]at hc;subst hc;refine⟨?_,rfl⟩;simp only[aK.run];unfold placesOf at hpc;split at hpc
    .have hq2:∀q∈pc,ρ q.2.2=ρ' q.2.2:=λq hq=>by
      obtain⟨p,h1,h2⟩:=ahr _ _ hpc q hq;have:=hp p h1;rw[<- h2]at this;exact this
     rw[RN pc z hq2]
    .cases hpc
   .cases hc
  .split at hc
   .rename_i s _;simp only[bz]at hc;subst hc;refine⟨?_,rfl⟩;simp only[aK.run];rw[RN _ _ λq hq=>by obtain⟨p,h1,rfl⟩:=dM.1 hq;exact hp p h1]
   .cases hc
  .cases hc
 case buildSlice t n ps=>
  have hp:∀p∈ps.toList,ρ p.2=ρ' p.2:=λp hp=>hρ p.2 xf;simp only[cop]at hc;split at hc
  .split at hc
   .split at hc
    .simp only[bz]at hc;subst hc;simp only[aK.run,aK.alloc];rw[RN _ _ λq hq=>by obtain⟨p,h1,rfl⟩:=dM.1 hq;exact hp p h1];exact⟨rfl,rfl⟩
    .cases hc
   .cases hc
  .cases hc
 case makeFunc fn first captured=>
  simp only[cop]at hc;split at hc
  .simp only[bz]at hc;subst hc;refine⟨?_,rfl⟩;simp only[aK.run];rw[RO first.toList λx hx=>hρ x (by simp only[Op.operands,Ib];exact .inl xj),RO captured.toList λx hx=>hρ x (by simp only[Op.operands,Ib];exact .inr xj)]
  .cases hc
 case slice t x lo hi mx=>
  have h0:ρ x=ρ' x:=hρ x tt;have h1:=RP (ρ:=ρ) (ρ':=ρ') lo λy hy=>hρ y ux;have h2:=RP (ρ:=ρ) (ρ':=ρ') hi λy hy=>hρ y ux;have h3:=RP (ρ:=ρ) (ρ':=ρ') mx λy hy=>hρ y ux;simp only[cop]at hc;split at hc
  .simp only[bz]at hc;subst hc;simp only[aK.run,aK.alloc,h0,h1,h2,h3,and_self]
  .exact oB
  .exact oB
  .cases hc
 case call cl=>
  obtain⟨callee,args,ats⟩:=cl;cases callee with
  |value f=>simp only[cop,bz]at hc;subst hc;exact⟨rfl,rfl⟩
  |invoke x n=>simp only[cop,bz]at hc;subst hc;exact⟨rfl,rfl⟩
  |builtin b=>
   have hargs:∀x∈args.toList,ρ x=ρ' x:=λx hx=>hρ x (by simp only[Op.operands,Call.operands,Ib];exact .inr xj);have hl:=RO args.toList hargs;simp only[cop]at hc;repeat' split at hc
   all_goals first
    |contradiction
    |(cases hc;done)
    |skip
   all_goals first
    |(simp only[bz]at hc;subst hc)
    |(simp only[lq]at hc;obtain⟨_,_,rfl⟩:=hc)
   all_goals first
    |exact⟨rfl,rfl⟩
    |(simp only[aK.run,aK.alloc,hl,and_self];done)
    |(simp only[*,dB,MV,or_false,forall_eq_or_imp,forall_eq]at hargs
      simp only[aK.run,aK.alloc,hargs,and_self])
 all_goals
  simp only[cop]at hc;repeat' split at hc
  all_goals first
   |contradiction
   |(cases hc;done)
   |skip
 all_goals first
  |(simp only[bz]at hc;subst hc)
  |(simp only[lq]at hc;obtain⟨_,_,rfl⟩:=hc)
  |(simp only[reduceCtorEq]at hc;done)
 all_goals (simp[Op.operands]at hρ;simp only[aK.run,aK.alloc,hρ,and_self])
end Go.Ideal
namespace Go.Ideal
variable {P:Program}
variable{β:aI}{h:IH}{w:World}
def WR.hide(hW:WR P β h w)(ob:aN):WR P β (h.new ob) w/\Eff β h w β (h.new ob) w:=by
 have hget:∀i,i<h.next->(h.new ob).get i=h.get i:=λi hi=>by rw[IH.jA,if_neg tf]
 refine⟨⟨?_,?_,?_,?_⟩,⟨λ_ _=>rfl,?_,?_,?_,bI _,?_,rfl,rfl,rfl,bI _,λ_ _ _=>rfl,?_,(by grind),bI _⟩⟩
 .intro i g hi;have:=hW.dom i g hi;show i<h.next+1;omega
 .intro i o hi;show i<h.next+1
  rw[IH.jA]at hi;split at hi
  .omega
  .have:=hW.live i o hi;omega
 .intro i g o hi ho;rw[hget i (hW.dom i g hi)]at ho;exact hW.obj i g o hi ho
 .intro i j g k hi hj h1 h2 hr he;rw[hget i (hW.dom i g hi)]at h1;rw[hget j (hW.dom j k hj)]at h2;exact hW.inj i j g k hi hj h1 h2 (hr.imp (λq cs e=>q cs (by rw[hget i (hW.dom i g hi)];exact e)) (λq cs e=>q cs (by rw[hget j (hW.dom j k hj)];exact e))) he
 .show h.next<=h.next+1;omega
 .grind
 .grind
 .grind
 .intro i g hg hi;exact absurd (hW.dom i g hg) tf
def WR.RQ(hW:WR P β h w){id:Nat}(hb:β id=none)(hlt:id<h.next){ob:aN}(hg:h.get id=some ob){o':Obj}{g:jf}(hgb:g.b=w.heap.size)
 (ho:OR P (β.add id g) g {w with heap:=w.heap.push o'} ob):WR P (β.add id g) h {w with heap:=w.heap.push o'}:=by
 have hle:=aI.xQ g hb;have hold:=λj k hk hj=>by
  cases hx:h.get j with
  |none=>exact absurd hx hj
  |some o=>exact(hW.obj j k o hk hx).lt
 refine⟨?_,hW.live,?_,?_⟩
 .intro j k hk;by_cases e:j=id
  .subst e;exact hlt
  .rw[aI.ny _ _ e]at hk;exact hW.dom j k hk
 .intro j k o hk hx;by_cases e:j=id
  .subst e;rw[aI.lY]at hk;grind
  .rw[aI.ny _ _ e]at hk;exact((hW.obj j k o hk hx).mono hle).congr (by grind)
 .intro j l k m hk hm hj hl hr he;by_cases ej:j=id
  .by_cases el:l=id
   .omega
   .subst ej;rw[aI.lY]at hk;rw[aI.ny _ _ el]at hm
    grind
  .rw[aI.ny _ _ ej]at hk;by_cases el:l=id
   .subst el;rw[aI.lY]at hm;grind
   .rw[aI.ny _ _ el]at hm;exact hW.inj _ _ _ _ hk hm hj hl hr he
section
variable (P) (ops:Array Oper) (cz:Nat->Nat->Bool) (hv:Nat->Bool)
structure xU(done:List Nat)(i:Nat):Prop where
 lt:i<ops.size
 new:i∉done
 pre:∀j,cz i j=true->j∈done
 heavy:hv i=true->(∀j∈done,hv j=true->cz i j=true)/\∀j,j<ops.size->hv j=false->j∉done->∃k,cz j k=true/\k∉done
 own:hv i=false->∀o d,ops[i]? =some o->o.dst=some d->d∉looks ops o
 put:∀o d,ops[i]? =some o->o.dst=some d->∀j∈done,∀p,ops[j]? =some p->(d∈looks ops p\/p.dst=some d)->hv i=true/\cz i j=true
 look:∀o,ops[i]? =some o->∀j∈done,∀p,ops[j]? =some p->∀d,p.dst=some d->d∈looks ops o->cz i j=true
def I7:ae Nat->Prop
 |[]=>True
 |i::d=>xU ops cz hv d i/\I7 d
def BV:ae Nat->ae Nat->ae bW->Prop
 |[],done,l=>l=[]/\∀i,i<ops.size->i∈done
 |i::rest,done,l=>xU ops cz hv done i/\∃s re r,l=⟨s,re⟩::r/\mH P ops i=some s/\(hv i=false->heavy s.op=false)/\
   (hv i=true->∀j∈done,hv j=false->cz i j=false->∀t,mH P ops j=some t->FH t.op=true->t∈re)/\BV rest (i::done) r
def y9:ae Nat->ae Nat->Prop
 |S,[]=>∀i,i<ops.size->i∉S->∃j,cz i j=true/\j∉S
 |S,i::r=>i<ops.size/\i∉S/\(∀j,cz i j=true->j∈S)/\y9 (i::S) r
def ahs:∀(rest D:ae Nat) (l:ae bW),BV P ops cz hv rest D l->∀y∈D,hv y=true->∀x,x<ops.size->x∉D->hv x=true->cz x y=true:=by
 intro rest;induction rest with
 |nil=>intro D l hp y _ _ x hx hxd _;exact absurd (hp.2 x hx) hxd
 |cons i rest ih=>
  intro D l hp y hy hvy x hx hxd IZ;obtain⟨h1,s,re,r,_,_,_,_,h2⟩:=hp;by_cases e:x=i
  .subst e;exact(h1.heavy IZ).1 y hy hvy
  grind
def XL:∀(done S:ae Nat),I7 ops cz hv done->(∃x∈done,x∉S)->∃x∈done,x∉S/\∀j,cz x j=true->j∈S:=by
 intro done;induction done with
 |nil=>grind
 |cons i d ih=>
  intro S hd h;obtain⟨h1,h2⟩:=hd;by_cases hp:∃x∈d,x∉S
  .obtain⟨x,a,b,c⟩:=ih S h2 hp
   grind
  .have hall:∀x∈d,x∈S:=(by grind)
   obtain⟨x,hx,hxs⟩:=h;rcases dB.1 hx with rfl|hx
   .exact⟨x,tg,hxs,λj hj=>hall j (h1.pre j hj)⟩
   grind
end
section
variable (P) (ops:Array Oper) (hv:Nat->Bool)
inductive XM(β:aI)(lo:Nat)(a:bB)(h:IH)(al:Nat->Nat)(i:Nat):Prop
 |skip (o:Oper) (s:iY) (ho:ops[i]? =some o) (hs:mH P ops i=some s) (hl:heavy s.op=false) (hw:a.wants s.guard=some false) (hd:∀d,s.dst=some d->dU a.tmps d=xJ\/a.n<=d)
 |nC (o:Oper) (s:iY) (ho:ops[i]? =some o) (hs:mH P ops i=some s) (hl:heavy s.op=false) (hw:a.wants s.guard=some true) (hm:s.op.makes=false) (u:Value) (hr:s.op.run P a.eval h=some (u,h))
   (hd:∀d,s.dst=some d->dU a.tmps d=u\/a.n<=d)
 |make (o:Oper) (s:iY) (ho:ops[i]? =some o) (hs:mH P ops i=some s) (hl:heavy s.op=false) (hw:a.wants s.guard=some true) (hm:s.op.makes=true) (f:Nat->Value) (ob:aN) (hr:s.op.alloc a.eval=some (f,ob))
   (hlo:lo<=al i) (hlt:al i<h.next) (hb:β (al i)=none) (hg:h.get (al i)=some ob) (hd:∀d,s.dst=some d->dU a.tmps d=f (al i)\/a.n<=d)
def waits(done S:ae Nat)(t:Nat):Prop:=∃i o,i∈done/\i∉S/\ops[i]? =some o/\o.dst=some t
structure Inv(cz:Nat->Nat->Bool)(β0:aI)(h0:IH)(w0:World)(done S:List Nat)(β:aI)(a:bB)(h:IH)(w:World)(tm:Array Value)(df:List Deferred):Prop where
 wG:I7 ops cz hv done
 sub:∀i∈S,i∈done
 I8:∀i∈done,hv i=true->i∈S
 pend:∃al:Nat->Nat,(∀i∈done,i∉S->XM P ops β h0.next a h al i)/\∀i j,i∈done->j∈done->i∉S->j∉S->i≠j->(∃s,mH P ops i=some s/\s.op.makes=true/\a.wants s.guard=some true)->(∃s,mH P ops j=some s/\s.op.makes=true/\a.wants s.guard=some true)->al i≠al j
 act:AR β (waits ops done S) a tm df
 wr:WR P β h w
 wH:Eff β0 h0 w0 β h w
end
variable{ops:Array Oper}{s:iY}
def qQ{i:Nat}(h:mH P ops i=some s):∃o,ops[i]? =some o/\cop P o=some s.op/\s.dst=o.dst/\(∀x∈o.op.operands,FE P x=true)/\
 ((o.guard=none/\s.guard=none)\/∃j want t,o.guard=some (j,want)/\(ops[j]?).bind (·.dst)=some t/\s.guard=some (t,want)):=by
 unfold mH at h;cases ho:ops[i]? with
 |none=>rw[ho]at h;cases h
 |some o=>
  refine⟨o,rfl,?_⟩;unfold Ip at h
  grind
variable{o:Oper}
def I9{t:Nat}(h:(∃x∈o.op.operands,x=.tmp t)\/∃j want,o.guard=some (j,want)/\(ops[j]?).bind (·.dst)=some t):t∈looks ops o:=by
 unfold looks;rcases h with⟨x,hx,rfl⟩|⟨j,want,h1,h2⟩
 .exact uR _ (Ic.2 ⟨.tmp t,by simpa using hx,rfl⟩)
 grind
def Ny{X:Nat->Prop}{a:bB}{tm:Array ah}{df:ae Deferred}(hg:(o.guard=none/\s.guard=none)\/∃j want t,o.guard=some (j,want)/\(ops[j]?).bind (·.dst)=some t/\s.guard=some (t,want))
 (k:AR β X a tm df) (hx:∀t,t∈looks ops o->¬X t) {r:Bool} (hw:a.wants s.guard=some r):Region.wanted o (yielded ops tm)=r:=by
 rcases hg with⟨h1,h2⟩|⟨j,want,t,h1,h2,h3⟩
 .rw[h2]at hw;simp only[bB.wants,bz]at hw;simp[Region.wanted,h1,<- hw]
 .rw[h3]at hw;have hv:=k.tmps t (hx t (I9 (by grind)));simp only[bB.wants]at hw;have hy:Region.wanted o (yielded ops tm)=((match tm[t]? with|some (.bool b)=>some b|_=>none)==some want):=by
   simp only[Region.wanted,h1,yielded,h2];rfl
  split at hw
  .rename_i b hb;rw[hb]at hv;have hv':=hv.Nj;rw[zY]at hv';cases ht:tm[t]? with
   |none=>rw[ht]at hv';simp[undef]at hv'
   |some u=>
    grind
  .rename_i c hb;rw[hb]at hv;simp only[bz]at hw;generalize hz:tm.getD t undef=z at hv;cases hv;rw[zY]at hz
   grind
  .cases hw
end Go.Ideal
namespace Go.Ideal
variable {P:Program} {ops:Array Oper} {cz:Nat->Nat->Bool} {hv:Nat->Bool}
variable{β:aI}
def lZ.le{β':aI}(h:β.le β')(k:lZ P β):lZ P β':=λg hg=>let⟨i,a,b⟩:=k g hg;⟨i,h _ _ a,b⟩
def Eff.RQ{β0:aI}{h0 h:IH}{w0 w:World}(e:Eff β0 h0 w0 β h w){id:Nat}{g:jf}(hlo:h0.next<=id)(hgb:g.b=w.heap.size)(o':Obj):Eff β0 h0 w0 (β.add id g) h {w with heap:=w.heap.push o'} where
 agree i hi:=(aI.ny _ _ tf).trans (e.agree i hi)
 next:=e.next
 alive:=e.alive
 hid:=e.hid
 low:=e.low
 kept:=e.kept
 os:=e.os
 tape:=e.tape
 output:=e.output
 drawn:=e.drawn
 size:=by have:=e.size;simp;omega
 keep b hb hno:=by
  rw[<- e.keep b hb hno];have:=e.size
  grind
 fresh i k hk hi:=by
  by_cases ei:i=id
  .subst ei;rw[aI.lY]at hk;cases hk;left;rw[hgb];exact e.size
  .rw[aI.ny _ _ ei]at hk;exact e.fresh i k hk hi
 uX i k hl hi hk hn hb:=by
  rw[<- e.uX i k hl hi hk hn hb];have:=e.size
  grind
def RU:∀{done:ae Nat},I7 ops cz hv done->∀{x:Nat},x∈done->∃d,xU ops cz hv d x:=by
 intro done;induction done with
 |nil=>grind
 |cons i d ih=>
  intro hd x hx;rcases dB.1 hx with rfl|hx
  .exact⟨d,hd.1⟩
  .exact ih hd.2 hx
def ahu:∀{done:ae Nat},I7 ops cz hv done->∀{x y:Nat},x∈done->y∈done->x≠y->(∃d,xU ops cz hv d y/\x∈d)\/(∃d,xU ops cz hv d x/\y∈d):=by
 intro done;induction done with
 |nil=>grind
 |cons i d ih=>
  intro hd x y hx hy hne;rcases dB.1 hx with e1|hx'
  .rcases dB.1 hy with e2|hy'
   .grind
   .subst e1;exact .inr ⟨d,hd.1,hy'⟩
  .rcases dB.1 hy with e2|hy'
   .subst e2;exact .inl ⟨d,hd.1,hx'⟩
   .exact ih hd.2 hx' hy' hne
section
variable {β0:aI} {h0:IH} {w0:World} {done S:ae Nat} {β:aI} {a:bB} {h:IH} {w:World} {tm:Array ah} {df:ae Deferred}
def Inv.RV(hI:Inv P ops hv cz β0 h0 w0 done S β a h w tm df){x:Nat}(hx:x∈done)(hs:x∉S):hv x=false:=by
 cases hh:hv x with
 |false=>rfl
 |true=>exact absurd (hI.I8 x hx hh) hs
def Inv.Nz(hI:Inv P ops hv cz β0 h0 w0 done S β a h w tm df){x:Nat}(hx:x∈done)(hs:x∉S)(hpre:∀j,cz x j=true->j∈S){o:Oper}(ho:ops[x]? =some o){t:Nat}(ht:t∈looks ops o):¬waits ops done S t:=by
 rintro⟨y,p,hy,hys,hp,nD⟩;by_cases e:x=y
 .subst e;rw[ho]at hp;cases hp;obtain⟨d,hd⟩:=RU hI.wG hx;exact hd.own (hI.RV hx hs) o t ho nD ht
 .rcases ahu hI.wG hx hy e with⟨d,hd,hxd⟩|⟨d,hd,F3⟩
  .have:=(hd.put p t hp nD x hxd o ho (.inl ht)).1;rw[hI.RV hy hys]at this;cases this
  .exact hys (hpre y (hd.look o ho y F3 p hp t nD ht))
def Inv.RX(hI:Inv P ops hv cz β0 h0 w0 done S β a h w tm df){x:Nat}(hx:x∈done)(hs:x∉S){o:Oper}(ho:ops[x]? =some o){β':aI}(hle:β.le β'){u v':ah}(hd:∀d,o.dst=some d->dU a.tmps d=u\/a.n<=d)(hv':VR β' u v'):
 AR β' (waits ops done (x::S)) a (sF tm o.dst v') df:=by
 have hA:=hI.act;refine⟨?_,λt ht=>?_,hA.out,hA.defers.mono hle⟩
 .rw[<- hA.size];unfold sF;split<;>simp
 .by_cases e:o.dst=some t
  .rw[e];show VR β' _ ((tm.setIfInBounds t v').getD t undef);by_cases hlt:t<tm.size
   .rw[Nt tm t v' t hlt,if_pos rfl];rcases hd t e with h1|h1
    .rw[h1];exact hv'
    .rw[hA.out t h1];exact .eO _
   .rw[hA.out t (by rw[<- hA.size];omega)];exact .eO _
  .have hnw:¬waits ops done S t:=by
    rintro⟨y,p,hy,hys,hp,nD⟩;refine ht ⟨y,p,hy,?_,hp,nD⟩
    grind
   have qh:=(hA.tmps t hnw).mono hle;cases hd2:o.dst with
   |none=>exact qh
   |some d=>
    show VR β' _ ((tm.setIfInBounds d v').getD t undef);have hne:d≠t:=(by grind)
    rw[zY,afQ hne,<- zY];exact qh
def Inv.take(hI:Inv P ops hv cz β0 h0 w0 done S β a h w tm df)(hG:lZ P β0)(hdom:∀i g,β0 i=some g->i<h0.next){x:Nat}(hx:x∈done)(hs:x∉S)(hpre:∀j,cz x j=true->j∈S)(b:Frame)(k:ae Item)(cs:ae Frame)(rest:ae Nat):
 ∃β' w' tm',step P (lone (fr b tm df (.inRegion ops (x::rest)::k)) cs w)=.next (lone (fr b tm' df (.inRegion ops rest::k)) cs w')/\β.le β'/\Inv P ops hv cz β0 h0 w0 done (x::S) β' a h w' tm' df:=by
 obtain⟨al,hp,hal⟩:=hI.pend;have hGβ:lZ P β:=hG.le (hI.wH.le hdom);have RY:∀i∈done,hv i=true->i∈x::S:=λi hi hh=>iw _ (hI.I8 i hi hh);have hsub:∀i∈x::S,i∈done:=λi hi=>by
  rcases dB.1 hi with rfl|hi
  .exact hx
  .exact hI.sub i hi
 have F4:∀y,y∉x::S->y∉S/\y≠x:=(by grind)
 have XN:∀{o:Oper},ops[x]? =some o->∀y∈o.op.operands,∀t,y=.tmp t->¬waits ops done S t:=λho y hy t ht=>hI.Nz hx hs hpre ho (I9 (.inl ⟨y,hy,ht⟩));have keep:∀(β':aI),(∀j,j∈done->j∉x::S->(∃s,mH P ops j=some s/\s.op.makes=true/\a.wants s.guard=some true)->β' (al j)=β (al j))->∀i∈done,i∉x::S->XM P ops β' h0.next a h al i:=by
  intro β' hb i hi his;cases hp i hi (F4 i his).1 with
  |skip o s ho hs hl hw hd=>exact .skip o s ho hs hl hw hd
  |nC o s ho hs hl hw hm u hr hd=>exact .nC o s ho hs hl hw hm u hr hd
  |make o s ho hs hl hw hm f ob hr hlo hlt hbb hg hd=>exact .make o s ho hs hl hw hm f ob hr hlo hlt (by grind) hg hd
 have RZ:=
  λi j hi hj his hjs=>hal i j hi hj (F4 i his).1 (F4 j hjs).1
 cases hp x hx hs with
 |skip o s ho hcs hl hw hd=>
  obtain⟨o',ho',iG,hdst,xV,hgd⟩:=qQ hcs;rw[ho]at ho';cases ho';have hwant:=Ny hgd hI.act (λt ht=>hI.Nz hx hs hpre ho ht) hw;refine⟨β,w,sF tm o.dst undef,?_,λ_ _ e=>e,hI.wG,hsub,RY,⟨al,(by grind),RZ⟩,?_,hI.wr,hI.wH⟩
  .have:=XH (P:=P) (b:=b) (tm:=tm) (df:=df) (k:=k) (cs:=cs) (w:=w) (ops:=ops) (i:=x) (rest:=rest) (by simp[ho,hwant]);rw[this,ho];rfl
  .rw[hdst]at hd;exact hI.RX hx hs ho (λ_ _ e=>e) hd .skip
 |nC o s ho hcs hl hw hm u hr hd=>
  obtain⟨o',ho',iG,hdst,xV,hgd⟩:=qQ hcs;rw[ho]at ho';cases ho';have hwant:=Ny hgd hI.act (λt ht=>hI.Nz hx hs hpre ho ht) hw;obtain⟨r,w',β',v',g1,g2,g3,g4,g5⟩:=XF (ρ':=Act.eval ⟨tm,df⟩) iG (λy hy=>hI.act.eval hGβ (xV y hy) (XN ho y hy)) hr hI.wr;have hnd:∀c,o.op≠.defer c:=by
   exact eN
  have hle:=g5.le hI.wr.dom;refine⟨β',w',sF tm o.dst v',Nw ho hwant (.inr hnd) g1 g2,hle,hI.wG,hsub,RY,⟨al,keep β' λj hj hjs hjm=>?_,RZ⟩,?_,g4,hI.wH.trans g5⟩
  .obtain⟨t,h1,h2,h3⟩:=hjm;cases hp j hj (F4 j hjs).1 with
   |skip o2 s2 _ hs2 _ hw2 _=>grind
   |nC o2 s2 _ hs2 _ _ hm2 _ _ _=>grind
   |make o2 s2 _ _ _ _ _ _ _ _ _ hlt _ _ _=>exact g5.agree _ hlt
  .rw[hdst]at hd;exact hI.RX hx hs ho hle hd g3
 |make o s ho hcs hl hw hm f ob hr hlo hlt hbn hget hd=>
  obtain⟨o',ho',iG,hdst,xV,hgd⟩:=qQ hcs;rw[ho]at ho';cases ho';have hwant:=Ny hgd hI.act (λt ht=>hI.Nz hx hs hpre ho ht) hw;obtain⟨v',o',g,m1,m2,m3⟩:=XE (ρ':=Act.eval ⟨tm,df⟩) (w:=w) hm iG (λy hy=>hI.act.eval hGβ (xV y hy) (XN ho y hy)) hr;have hle:=aI.xQ (β:=β) g hbn;obtain⟨m4,m5⟩:=m3 (al x) _ hle (aI.lY _ _ _);have hnd:∀c,o.op≠.defer c:=by
   exact eN
  refine⟨β.add (al x) g,_,sF tm o.dst v',Nw ho hwant (.inr hnd) m1 (.inl rfl),hle,hI.wG,hsub,RY,⟨al,keep _ λj hj hjs hjm=>?_,RZ⟩,?_,hI.wr.RQ hbn hlt hget m2 m5,hI.wH.RQ hlo m2 o'⟩
  .exact aI.ny _ _ (by grind)
  .rw[hdst]at hd;exact hI.RX hx hs ho hle hd m4
def Inv.flush(hG:lZ P β0)(hdom:∀i g,β0 i=some g->i<h0.next){i:Nat}(hstep:xU ops cz hv done i)(l5:hv i=true)(av5:∀x,x<ops.size->x∉done->x≠i->hv x=true->cz x i=true)
 (b:Frame) (k:ae Item) (cs:ae Frame):∀(ρ S:ae Nat) (β:aI) (w:World) (tm:Array ah),Inv P ops hv cz β0 h0 w0 done S β a h w tm df->y9 ops cz S ρ->
 ∃S' β' w' tm' ρ',Steps P (lone (fr b tm df (.inRegion ops ρ::k)) cs w) (lone (fr b tm' df (.inRegion ops (i::ρ')::k)) cs w')/\β.le β'/\Inv P ops hv cz β0 h0 w0 done S' β' a h w' tm' df/\y9 ops cz S' (i::ρ'):=by
 intro ρ;induction ρ with
 |nil=>
  intro S β w tm hI hR
  exfalso
  by_cases hp:∃x∈done,x∉S
  .obtain⟨x,h1,h2,h3⟩:=XL ops cz hv done S hI.wG hp;obtain⟨d,hd⟩:=RU hI.wG h1;obtain⟨j,h4,h5⟩:=hR x hd.lt h2;exact h5 (h3 j h4)
  .have hall:∀x∈done,x∈S:=(by grind)
   obtain⟨j,h4,h5⟩:=hR i hstep.lt λhc=>hstep.new (hI.sub i hc);exact h5 (hall j (hstep.pre j h4))
 |cons x ρ ih=>
  intro S β w tm hI hR;by_cases e:x=i
  .subst e;exact⟨S,β,w,tm,ρ,Steps.refl P _,λ_ _ e=>e,hI,hR⟩
  .obtain⟨r1,r2,r3,r4⟩:=hR;have hx:x∈done:=by
    refine Decidable.byContradiction λhn=>?_;cases hh:hv x with
    |false=>
     obtain⟨j,h1,h2⟩:=(hstep.heavy l5).2 x r1 hh hn;exact h2 (hI.sub j (r3 j h1))
    |true=>exact hstep.new (hI.sub i (by grind))
   obtain⟨β',w',tm',s1,s0,s2⟩:=hI.take hG hdom hx r2 r3 b k cs ρ;obtain⟨S',β'',w'',R3,ρ',t1,t0,t2,t3⟩:=ih _ _ _ _ s2 r4;exact⟨S',β'',w'',R3,ρ',.head s1 t1,λ_ _ e=>t0 _ _ (s0 _ _ e),t2,t3⟩
def Inv.finish(hG:lZ P β0)(hdom:∀i g,β0 i=some g->i<h0.next)(hall:∀i,i<ops.size->i∈done)
 (b:Frame) (k:ae Item) (cs:ae Frame):∀(ρ S:ae Nat) (β:aI) (w:World) (tm:Array ah),Inv P ops hv cz β0 h0 w0 done S β a h w tm df->y9 ops cz S ρ->
 ∃β' w' tm',Steps P (lone (fr b tm df (.inRegion ops ρ::k)) cs w) (lone (fr b tm' df k) cs w')/\β.le β'/\AR β' none' a tm' df/\WR P β' h w'/\Eff β0 h0 w0 β' h w':=by
 intro ρ;induction ρ with
 |nil=>
  intro S β w tm hI hR;have hS:=λx hx=>Decidable.byContradiction λhn=>by
   obtain⟨y,h1,h2,h3⟩:=XL ops cz hv done S hI.wG ⟨x,hx,hn⟩;obtain⟨d,hd⟩:=RU hI.wG h1;obtain⟨j,h4,h5⟩:=hR y hd.lt h2;exact h5 (h3 j h4)
  refine⟨β,w,tm,.one ahj,λ_ _ e=>e,⟨hI.act.size,λi _=>hI.act.tmps i ?_,hI.act.out,hI.act.defers⟩,hI.wr,hI.wH⟩;rintro⟨y,p,hy,hys,_⟩;exact hys (hS y hy)
 |cons x ρ ih=>
  intro S β w tm hI hR;obtain⟨r1,r2,r3,r4⟩:=hR;obtain⟨β',w',tm',s1,s0,s2⟩:=hI.take hG hdom (hall x r1) r2 r3 b k cs ρ;obtain⟨β'',w'',R3,t1,t0,t2⟩:=ih _ _ _ _ s2 r4;exact⟨β'',w'',R3,.head s1 t1,λ_ _ e=>t0 _ _ (s0 _ _ e),t2⟩
end
end Go.Ideal
namespace Go.Ideal
variable {P:Program} {ops:Array Oper} {cz:Nat->Nat->Bool} {hv:Nat->Bool}
def wI(a:bB)(d:ak Tmp)(v:ah)(t:Nat):dU (a.put d v).tmps t=if d=some t/\t<a.n then v else dU a.tmps t:=by
 cases d with
 |none=>simp[bB.put]
 |some d=>
  show dU (a.set d v).tmps t=_;unfold bB.set;cases hb:Nat.blt d a.n with
  |true=>
   have hlt: @LT.lt Nat _ d a.n:=tW
   show dU (a.tmps.set d (some v)) t=_;rw[FO]
   grind
  |false=>
   show dU a.tmps t=_;rw[if_neg];rintro⟨h1,h2⟩;simp only[bz]at h1;subst h1;have:Nat.blt d a.n=true:=by simpa[vY]using h2
   grind
def sG(a:bB)(d:ak Tmp)(v:ah):(a.put d v).n=a.n:=by
 cases d with
 |none=>rfl
 |some d=>show(a.set d v).n=_;unfold bB.set;grind
def put_defers(a:bB)(d:ak Tmp)(v:ah):(a.put d v).defers=a.defers:=by
 cases d with
 |none=>rfl
 |some d=>show(a.set d v).defers=_;unfold bB.set;grind
def xW(a:bB)(d:ak Tmp)(v:ah):(a.put d v).pm=a.pm:=by
 cases d with
 |none=>rfl
 |some d=>show(a.set d v).pm=_;unfold bB.set;grind
def xX(a:bB)(d:ak Tmp)(v:ah):(a.put d v).ro=a.ro:=by
 cases d with
 |none=>rfl
 |some d=>show(a.set d v).ro=_;unfold bB.set;grind
def F5{a a2:bB}{o:Oper}{s:iY}{i:Nat}(hi:ops[i]? =some o)(hs:mH P ops i=some s)(h:∀t,t∈looks ops o->dU a2.tmps t=dU a.tmps t):
 (∀x∈o.op.operands,a2.eval x=a.eval x)/\a2.wants s.guard=a.wants s.guard:=by
 obtain⟨o',ho',_,_,_,hg⟩:=qQ hs;rw[hi]at ho';refine⟨λx hx=>?_,?_⟩
 .cases x with
  |tmp t=>exact h t (I9 (.inl ⟨_,hx,rfl⟩))
  |const v=>rfl
  |global g=>rfl
  |func f=>rfl
 .rcases hg with⟨_,h2⟩|⟨j,want,t,h1,h2,h3⟩
  .rw[h2];rfl
  .rw[h3];simp only[bB.wants,h t (I9 (by grind))]
section
variable {β0:aI} {h0:IH} {w0:World} {done S:ae Nat} {β:aI} {a:bB} {h:IH} {w:World} {tm:Array ah} {df:ae Deferred}
def Inv.sync(hI:Inv P ops hv cz β0 h0 w0 done S β a h w tm df){i:Nat}(hstep:xU ops cz hv done i){o:Oper}(ho:ops[i]? =some o)(hpre:∀j,cz i j=true->j∈S)
 {β2:aI} {h2:IH} {w2:World} (heff:Eff β h w β2 h2 w2) (hwr:WR P β2 h2 w2) {v v':ah} (hvv:VR β2 v v') {a2:bB} (ha2:∀t,dU a2.tmps t=dU (a.put o.dst v).tmps t) (hn:a2.n=a.n) {df2:ae Deferred} (hdf:wF β2 a2.defers df2)
 (hre:h2=h\/∀j∈done,j∉S->∀t,mH P ops j=some t->FH t.op=true->a2.wants t.guard≠some false->∃u h3,t.op.run P a2.eval h2=some (u,h3)/\∀d,t.dst=some d->dU a2.tmps d=u):
 Inv P ops hv cz β0 h0 w0 (i::done) (i::S) β2 a2 h2 w2 (sF tm o.dst v') df2:=by
 have hle:=heff.le hI.wr.dom;obtain⟨al,hp,hal⟩:=hI.pend;have F4:∀y,y∈i::done->y∉i::S->y∈done/\y∉S/\y≠i:=(by grind)
 have free:∀j∈done,j∉S->∀p,ops[j]? =some p->(∀t∈looks ops p,o.dst≠some t)/\∀t,p.dst=some t->o.dst≠some t:=λj hj hjs p iC=>
  ⟨λt ht hd=>hjs (hpre j (hstep.put o t ho hd j hj p iC (.inl ht)).2),λt ht hd=>hjs (hpre j (hstep.put o t ho hd j hj p iC (.inr ht)).2)⟩
 have za:∀t,o.dst≠some t->dU a2.tmps t=dU a.tmps t:=λt ht=>by rw[ha2,wI,if_neg (λhc=>ht hc.1)]
 have same:∀j∈done,j∉S->∀p s,ops[j]? =some p->mH P ops j=some s->(∀x∈p.op.operands,a2.eval x=a.eval x)/\a2.wants s.guard=a.wants s.guard:=λj hj hjs p s iC hsj=>
  F5 iC hsj (by grind)
 have Ja:∀j∈done,j∉S->(∃s,mH P ops j=some s/\s.op.makes=true/\a2.wants s.guard=some true)->∃s,mH P ops j=some s/\s.op.makes=true/\a.wants s.guard=some true:=λj hj hjs ⟨s,q1,q2,q3⟩=>by
  obtain⟨p,iC,_⟩:=qQ q1
  grind
 refine⟨⟨hstep,hI.wG⟩,?_,?_,⟨al,?_,?_⟩,?_,hwr,hI.wH.trans heff⟩
 .intro x hx;rcases dB.1 hx with e|hx
  .simp[e]
  .exact iw _ (hI.sub x hx)
 .intro x hx hh;rcases dB.1 hx with e|hx
  .simp[e]
  .exact iw _ (hI.I8 x hx hh)
 .intro j hj hjs;obtain⟨c1,c2,c3⟩:=F4 j hj hjs;cases hp j c1 c2 with
  |skip p s iC hs hl hw hd=>
   obtain⟨f1,f2⟩:=free j c1 c2 p iC;obtain⟨_,qR,_,hdst,_⟩:=qQ hs;rw[iC]at qR;cases qR;refine .skip p s iC hs hl (by grind) λd hdd=>?_
   grind
  |nC p s iC hs hl hw hm u hr hd=>
   obtain⟨f1,f2⟩:=free j c1 c2 p iC;obtain⟨_,qR,iG,hdst,_⟩:=qQ hs;rw[iC]at qR;cases qR;obtain⟨e1,e2⟩:=same j c1 c2 p s iC hs;have hcg:∀hh:IH,s.op.run P a2.eval hh=s.op.run P a.eval hh:=λhh=>(FZ iG e1 hh).1;cases hrd:FH s.op with
   |false=>
    have hr2:s.op.run P a2.eval h2=some (u,h2):=by rw[hcg];exact ahq hl hm hrd hr h2
    refine .nC p s iC hs hl ua hm u hr2 λd hdd=>?_
    grind
   |true=>
    rcases hre with rfl|hre
    .refine .nC p s iC hs hl ua hm u (by rw[hcg];exact hr) λd hdd=>?_
     grind
    obtain⟨u2,h3,g1,g2⟩:=hre j c1 c2 s hs hrd (by rw[e2,hw];simp);have h3e:=XJ hl hm g1;subst h3e;exact .nC p s iC hs hl ua hm u2 g1 (by grind)
  |make p s iC hs hl hw hm f ob hr hlo hlt hb hg hd=>
   obtain⟨f1,f2⟩:=free j c1 c2 p iC;obtain⟨_,qR,iG,hdst,_⟩:=qQ hs;rw[iC]at qR;cases qR;obtain⟨e1,e2⟩:=same j c1 c2 p s iC hs;have hb2:β2 (al j)=none:=by rw[heff.agree _ hlt];exact hb
   have hg2:h2.get (al j)=some ob:=by rw[heff.hid _ hlt hb];exact hg
   refine .make p s iC hs hl ua hm f ob (by rw[(FZ iG e1 h).2];exact hr) hlo (pW hlt heff.next) hb2 hg2 λd hdd=>?_
   grind
 .intro x y hx hy hxs hys hne mx my
  grind
 .have hA:=hI.act;refine⟨?_,λt ht=>?_,λt ht=>?_,hdf⟩
  .rw[hn,<- hA.size];unfold sF;split<;>simp
  .have hnw:¬waits ops done S t:=by
    rintro⟨y,p,hy,hys,hp',nD⟩;refine ht ⟨y,p,(by grind),?_,hp',nD⟩
    grind
   have qh:=(hA.tmps t hnw).mono hle;rw[ha2,wI];cases hd2:o.dst with
   |none=>
    rw[if_neg tg];exact qh
   |some d=>
    show VR β2 _ ((tm.setIfInBounds d v').getD t undef);have hsz:=hA.size;by_cases hdt:d=t
    .subst hdt;by_cases hlt: @LT.lt Nat _ d a.n
     .rw[if_pos ⟨rfl,hlt⟩,Nt tm d v' d tf,if_pos rfl];exact hvv
     grind
    .rw[if_neg (by grind)];rw[zY,afQ hdt,<- zY];exact qh
  .rw[ha2,wI,if_neg (by grind)];exact hA.out t tf
def Inv.ahead(hI:Inv P ops hv cz β0 h0 w0 done S β a h w tm df){i:Nat}(hstep:xU ops cz hv done i)(hlt:hv i=false){o:Oper}{s:iY}(ho:ops[i]? =some o)(hs:mH P ops i=some s)(hl:heavy s.op=false)
 {v:ah} {h2:IH} (hcase:(a.wants s.guard=some false/\v=xJ/\h2=h)\/(a.wants s.guard=some true/\s.op.run P a.eval h=some (v,h2))):
 Inv P ops hv cz β0 h0 w0 (i::done) S β (a.put s.dst v) h2 w tm df:=by
 obtain⟨al,hp,hal⟩:=hI.pend;obtain⟨o',ho',iG,hdst,_,_⟩:=qQ hs;rw[ho]at ho';cases ho';have xY:i∉S:=λhc=>hstep.new (hI.sub i hc);have za:∀t,o.dst≠some t->dU (a.put s.dst v).tmps t=dU a.tmps t:=λt ht=>by rw[wI,hdst,if_neg (λhc=>ht hc.1)]
 have free:∀j∈done,∀p,ops[j]? =some p->(∀t∈looks ops p,o.dst≠some t)/\∀t,p.dst=some t->o.dst≠some t:=λj hj p iC=>
  ⟨λt ht hd=>(by have:=(hstep.put o t ho hd j hj p iC (.inl ht)).1;rw[hlt]at this;cases this),λt ht hd=>(by have:=(hstep.put o t ho hd j hj p iC (.inr ht)).1;rw[hlt]at this;cases this)⟩
 have own:∀t∈looks ops o,o.dst≠some t:=λt ht hd=>hstep.own hlt o t ho hd ht;have R4:∀d,s.dst=some d->dU (a.put s.dst v).tmps d=v\/(a.put s.dst v).n<=d:=λd hd=>by
  rw[wI,sG,hd];by_cases hh: @LT.lt Nat _ d a.n
  .left;rw[if_pos ⟨rfl,hh⟩]
  .right;exact Nat.le_of_not_lt hh
 have hheap:(h2=h/\((a.wants s.guard=some true)->s.op.makes=false))\/(a.wants s.guard=some true/\s.op.makes=true/\∃f ob,s.op.alloc a.eval=some (f,ob)/\v=f h.next/\h2=h.new ob):=by
  rcases hcase with⟨q1,_,q3⟩|⟨q1,q2⟩
  .exact .inl ⟨q3,λhc=>by rw[q1]at hc;cases hc⟩
  .cases hm:s.op.makes with
   |false=>exact .inl ⟨XJ hl hm q2,λ_=>rfl⟩
   |true=>
    rw[aK.XD hm]at q2;obtain⟨f,ob,e1,e2,e3⟩:=XC q2;exact .inr ⟨q1,rfl,f,ob,e1,e2,e3⟩
 have hsub:∀x ob,h.get x=some ob->h2.get x=some ob:=λx ob hx=>by
  rcases hheap with⟨e,_⟩|⟨_,_,f,R5,_,_,e⟩
  .rw[e];exact hx
  .rw[e];exact ahp hI.wr.live _ _ _ hx
 have hnext:h.next<=h2.next:=by
  rcases hheap with⟨e,_⟩|⟨_,_,f,R5,_,_,e⟩
  .rw[e];exact bI _
  .rw[e];exact Dl _
 have XO:WR P β h2 w/\Eff β h w β h2 w:=by
  rcases hheap with⟨e,_⟩|⟨_,_,f,R5,_,_,e⟩
  .rw[e];exact⟨hI.wr,Eff.refl _ _ _ hI.wr.dom⟩
  .rw[e];exact hI.wr.hide R5
 have hne:∀j∈done,j≠i:=λj hj e=>hstep.new (e▸hj);have Ja:∀j∈done,(∃s',mH P ops j=some s'/\s'.op.makes=true/\(a.put s.dst v).wants s'.guard=some true)->∃s',mH P ops j=some s'/\s'.op.makes=true/\a.wants s'.guard=some true:=λj hj ⟨s',q1,q2,q3⟩=>by
  obtain⟨p,iC,_⟩:=qQ q1;exact⟨s',q1,q2,by rw[<- (F5 iC q1 λt ht=>za t ((free j hj p iC).1 t ht)).2];exact q3⟩
 have XP:∀j∈done,j∉S->(∃s',mH P ops j=some s'/\s'.op.makes=true/\a.wants s'.guard=some true)->al j<h.next:=λj hj hjs ⟨s',q1,q2,q3⟩=>by
  cases hp j hj hjs with
  |skip p s2 _ hs2 _ hw2 _=>rw[q1]at hs2;cases hs2;rw[q3]at hw2;cases hw2
  |nC p s2 _ hs2 _ _ hm2 _ _ _=>rw[q1]at hs2;cases hs2;rw[q2]at hm2;cases hm2
  |make p s2 _ _ _ _ _ _ _ _ _ hlt2 _ _ _=>exact hlt2
 refine⟨⟨hstep,hI.wG⟩,λx hx=>iw _ (hI.sub x hx),?_,⟨λj=>if j=i then h.next else al j,?_,?_⟩,?_,XO.1,hI.wH.trans XO.2⟩
 .intro x hx hh;rcases dB.1 hx with e|hx
  .subst e;rw[hlt]at hh;cases hh
  .exact hI.I8 x hx hh
 .intro j hj hjs;rcases dB.1 hj with e|hj
  .subst e;obtain⟨e1,e2⟩:=F5 (a:=a) (a2:=a.put s.dst v) ho hs λt ht=>za t (own t ht);rcases hheap with⟨e,hm⟩|⟨q1,q2,f,ob,q3,q4,q5⟩
   .rcases hcase with⟨q1,q2,q3⟩|⟨q1,q2⟩
    .refine .skip o s ho hs hl Ax λd hd=>?_;rw[<- q2];exact R4 d hd
    .subst e;exact .nC o s ho hs hl Ax (hm q1) v (by rw[(FZ iG e1 h2).1];exact q2) R4
   .refine .make o s ho hs hl Ax q2 f ob (by rw[(FZ iG e1 h2).2];exact q3) ?_ ?_ ?_ ?_ λd hd=>?_
    .rw[if_pos rfl];exact hI.wH.next
    .rw[if_pos rfl,q5];exact zW _
    .rw[if_pos rfl];exact hI.wr.y8
    .rw[if_pos rfl,q5,IH.jA,if_pos rfl]
    .rw[if_pos rfl,<- q4];exact R4 d hd
  .have hji:=hne j hj;cases hp j hj hjs with
   |skip p s2 iC hs2 hl2 hw hd=>
    obtain⟨f1,f2⟩:=free j hj p iC;obtain⟨_,qR,_,Jb,_⟩:=qQ hs2;rw[iC]at qR;cases qR;obtain⟨e1,e2⟩:=F5 iC hs2 λt ht=>za t (f1 t ht);refine .skip p s2 iC hs2 hl2 ua λd hdd=>?_;rw[za d (f2 d AD),sG];exact hd d hdd
   |nC p s2 iC hs2 hl2 hw hm u hr hd=>
    obtain⟨f1,f2⟩:=free j hj p iC;obtain⟨_,qR,R6,Jb,_⟩:=qQ hs2;rw[iC]at qR;cases qR;obtain⟨e1,e2⟩:=F5 iC hs2 λt ht=>za t (f1 t ht);refine .nC p s2 iC hs2 hl2 ua hm u (by rw[(FZ R6 e1 h2).1];exact aho hl2 hm hsub hr) λd hdd=>?_;rw[za d (f2 d AD),sG];exact hd d hdd
   |make p s2 iC hs2 hl2 hw hm f ob hr hlo hlt2 hb hg hd=>
    obtain⟨f1,f2⟩:=free j hj p iC;obtain⟨_,qR,R6,Jb,_⟩:=qQ hs2;rw[iC]at qR;cases qR;obtain⟨e1,e2⟩:=F5 iC hs2 λt ht=>za t (f1 t ht);have Jc:(if j=i then h.next else al j)=al j:=if_neg hji;refine .make p s2 iC hs2 hl2 ua hm f ob (by rw[(FZ R6 e1 h2).2];exact hr) (by rw[Jc];exact hlo) (by rw[Jc];exact pW hlt2 hnext) (by rw[Jc];exact hb) (by rw[Jc];exact hsub _ _ hg) λd hdd=>?_;rw[za d (f2 d AD),sG,Jc];exact hd d hdd
 .intro x y hx hy hxs hys hxy mx my;show(if x=i then h.next else al x)≠(if y=i then h.next else al y);rcases dB.1 hx with ex|hx
  .rcases dB.1 hy with ey|hy
   .exact absurd (ex.trans ey.symm) hxy
   .rw[if_pos ex,if_neg (hne y hy)];have:=XP y hy hys (Ja y hy my);omega
  .rcases dB.1 hy with ey|hy
   .rw[if_neg (hne x hx),if_pos ey];have:=XP x hx hxs (Ja x hx mx);omega
   .rw[if_neg (hne x hx),if_neg (hne y hy)];exact hal x y hx hy hxs hys hxy (Ja x hx mx) (Ja y hy my)
 .have hA:=hI.act;refine⟨by rw[sG];exact hA.size,λt ht=>?_,λt ht=>?_,by rw[put_defers];exact hA.defers⟩
  .have hdt:o.dst≠some t:=λhd=>ht ⟨i,o,tg,xY,ho,hd⟩;rw[za t hdt];refine hA.tmps t ?_;rintro⟨y,p,hy,hys,hp',nD⟩;exact ht ⟨y,p,iw _ hy,hys,hp',nD⟩
  .rw[sG]at ht;rw[wI,if_neg (λhc=>by have:=hc.2;omega)];exact hA.out t ht
end
end Go.Ideal
namespace Go.Ideal
variable {P:Program}
def kindOf:ak FrameMode->CallKind
 |none=>.normal
 |some _=>.deferred
structure CX(P:Program)(β:aI)(pm:Option FrameMode)(ro:Option Nat)(b:Frame)(cs:List Frame):Prop where
 fn:∃f,P.funcs[b.fn]? =some f
 round:(ro=none/\b.roundOf=none)\/∃l g,ro=some l/\β l=some g/\b.roundOf=some g.b
 kind:b.kind=kindOf pm
 mode:∀m,pm=some m->∃c rest,cs=c::rest/\MR β m c.mode
inductive qz(β':aI):Option FrameMode->Option FrameMode->List Frame->List Frame->Prop
 |none (cs:List Frame):qz β' none none cs cs
 |some (m m':FrameMode) (c:Frame) (rest:List Frame) (mr:FrameMode) (h:MR β' m' mr):qz β' (some m) (some m') (c::rest) ({c with mode:=mr}::rest)
variable{β β':aI}
def qz.mono(h:β.le β'){p q:ak FrameMode}{cs cs':ae Frame}(k:qz β p q cs cs'):qz β' p q cs cs':=by
 cases k with
 |none cs=>exact .none cs
 |some m m' c rest mr hm=>exact .some m m' c rest mr (hm.mono h)
variable{cs cs':ae Frame}
def qz.trans{p q r:ak FrameMode}{cs'':ae Frame}(k:qz β p q cs cs')(k2:qz β' q r cs' cs''):qz β' p r cs cs'':=by
 cases k with
 |none cs=>exact k2
 |some m m' c rest mr hm=>
  cases k2 with
  |some _ m'' _ _ R7 hm'=>exact .some m m'' c rest R7 hm'
variable{b:Frame}
def CX.start{pm:ak FrameMode}{ro:ak Nat}(k:CX P β pm ro b cs):qz β pm pm cs cs:=by
 cases pm with
 |none=>exact .none cs
 |some m=>
  obtain⟨c,rest,rfl,hm⟩:=k.mode m rfl;have:=qz.some m m c rest c.mode hm;exact this
def CX.after(hle:β.le β'){pm pm':ak FrameMode}{ro:ak Nat}{b:Frame}{cs cs':ae Frame}(k:CX P β pm ro b cs)(hc:qz β' pm pm' cs cs'):CX P β' pm' ro b cs' where
 fn:=k.fn
 round:=by
  rcases k.round with h|⟨l,g,h1,h2,h3⟩
  .exact .inl h
  .exact .inr ⟨l,g,h1,hle _ _ h2,h3⟩
 kind:=by
  have:=k.kind;cases hc with
  |none=>exact this
  |some=>exact this
 mode m hm:=by
  cases hc with
  |none=>cases hm
  |some m0 m' c rest mr h=>grind
def NA(P:Program)(M:Machine)(b:Frame)(k:ae Item)(β':aI)(tm':Array ah)(iF:ae Deferred)(cs':ae Frame)(w':World):Out->Prop
 | .normal=>Steps P M (lone (fr b tm' iF k) cs' w')
 | .exit id=>∃todo,exitTo id todo=exitTo id k/\Steps P M (lone (fr b tm' iF (.code (.exit id)::todo)) cs' w')
 | .ret=>∃todo,Steps P M (lone (fr b tm' iF (.code .ret::todo)) cs' w')
 | .panic ch=>∃todo ch',qP β' ch ch'/\Steps P M (lone {fr b tm' iF todo with mode:=.panicking ch'} cs' w')
variable{M M':Machine}{k:ae Item}
def NA.of_steps{tm':Array ah}{iF:ae Deferred}{w':World}{o:Out}(h:Steps P M M')(k2:NA P M' b k β' tm' iF cs' w' o):NA P M b k β' tm' iF cs' w' o:=by
 cases o with
 |normal=>exact h.trans k2
 |exit id=>obtain⟨todo,h1,h2⟩:=k2;exact⟨todo,h1,h.trans h2⟩
 |ret=>obtain⟨todo,h2⟩:=k2;exact⟨todo,h.trans h2⟩
 |panic ch=>obtain⟨todo,ch',h1,h2⟩:=k2;exact⟨todo,ch',h1,h.trans h2⟩
def Post(P:Program)(β0:aI)(h0:IH)(w0:World)(kU:ak FrameMode)(kg:ak Nat)(b:Frame)(cs0:ae Frame)(k:ae Item)(K:KO)(M:Machine):Prop:=
 ∃o a' h' β' w' tm' iF cs',K o a' h'/\WR P β' h' w'/\Eff β0 h0 w0 β' h' w'/\AR β' none' a' tm' iF/\qz β' kU a'.pm cs0 cs'/\a'.ro=kg/\NA P M b k β' tm' iF cs' w' o
def Post.of_steps{β0:aI}{h0:IH}{w0:World}{kU:ak FrameMode}{kg:ak Nat}{cs0:ae Frame}{K:KO}(h:Steps P M M')(p:Post P β0 h0 w0 kU kg b cs0 k K M'):Post P β0 h0 w0 kU kg b cs0 k K M:=by
 obtain⟨o,a',h',β',w',tm',iF,cs',q1,q2,q3,q4,q5,q6,q7⟩:=p;exact⟨o,a',h',β',w',tm',iF,cs',q1,q2,q3,q4,q5,q6,.of_steps h q7⟩
def R8(code:Code)(it:Item):Prop:=it=.code code\/∃body,code=.loop body/\it=.inLoop body
def nE(P:Program)(c:dH)(a:bB)(h:IH)(K:KO):Prop:=
 ∀code it,compile P code=c->R8 code it->∀β w b tm df k cs,lZ P β->WR P β h w->AR β none' a tm df->CX P β a.pm a.ro b cs->
  Post P β h w a.pm a.ro b cs k K (lone (fr b tm df (it::k)) cs w)
def qA(P:Program)(ds:ae Tmp)(l:ae bW)(a:bB)(h:IH)(K:KO):Prop:=
 ∀ops cz hv rest done S,BV P ops cz hv rest done l->(∀(i:Nat) o d,ops[i]? =some o->o.dst=some d->d∈ds)->
  ∀β0 h0 w0 kU kg cs0 β w b tm df k cs ρ,lZ P β0->(∀i g,β0 i=some g->i<h0.next)->CX P β0 kU kg b cs0->Inv P ops hv cz β0 h0 w0 done S β a h w tm df->y9 ops cz S ρ->
  qz β kU a.pm cs0 cs->a.ro=kg->Post P β0 h0 w0 kU kg b cs0 k K (lone (fr b tm df (.inRegion ops ρ::k)) cs w)
inductive RR(β:aI):jy->Ending->Prop
 |ok {v v':Value} (h:VR β v v'):RR β (.ok v) (.returned v')
 |gT {ch ch':List PanicEntry} (h:qP β ch ch'):RR β (.gT ch) (.panicked ch')
def entry(P:Program)(k:CallKind):Next->ak Frame
 | .enter f args=>some (Frame.enter P f args k)
 | .round l f tmps x y=>some (Frame.round l f tmps x y k)
 |_=>none
def recv(c:Frame):Ending->Frame
 | .returned v=>c.finish v
 | .panicked ch=>c.raise ch
 | .outgrown=>c
def l6(P:Program)(q:bD)(h:IH)(K:KR):Prop:=
 ∀β w fn' args' cap',lZ P β->WR P β h w->FR β q.fn fn'->aY β q.args args'->aY β q.captured cap'->
  ∃nx F0,(invoke (.fn fn' ⟨cap'⟩) ⟨args'⟩).run P w=.ok nx w/\entry P (kindOf q.pm) nx=some F0/\
   ∀cs0,(∀m,q.pm=some m->∃c rest,cs0=c::rest/\MR β m c.mode)->∃r pm' h' β' w' r' cs1,K r pm' h'/\WR P β' h' w'/\Eff β h w β' h' w'/\RR β' r r'/\qz β' q.pm pm' cs0 cs1/\
    ((∃f args F1,nx=.enter f args/\Steps P (lone F0 cs0 w) (lone F1 cs1 w')/\F1.fn=f/\F1.kind=kindOf q.pm/\F1.going P w' r')\/
     ((q.pm=none/\∃l,q.fn=.yield l)/\∀c rest,cs1=c::rest->Steps P (lone F0 cs0 w) (lone (recv c r') rest w')))
def Ai(P:Program)(cf:iL)(ts:T ah)(ds:ae Deferred)(m:FrameMode)(h:IH)(K:jy->IH->Prop):Prop:=
 ∀β w (F:Frame) cs fn,lZ P β->WR P β h w->MR β m F.mode->wF β ds F.defers->(∀i,VR β (dU ts i) (F.tmps.getD i undef))->P.funcs[F.fn]? =some fn->xL P fn=some cf->
  ∃r h' β' w' F1 r',K r h'/\WR P β' h' w'/\Eff β h w β' h' w'/\RR β' r r'/\Steps P (lone F cs w) (lone F1 cs w')/\F1.kind=F.kind/\F1.fn=F.fn/\F1.going P w' r'
def l6.call{q:bD}{h:IH}{K:KR}(hM:l6 P q h K)(hq:q.pm=none){β:aI}{w:World}{fn':Fn}{args' cap':ae ah}(hG:lZ P β)(hW:WR P β h w)(hf:FR β q.fn fn')(ha:aY β q.args args')(hc:aY β q.captured cap'):
 ∃nx F0,(invoke (.fn fn' ⟨cap'⟩) ⟨args'⟩).run P w=.ok nx w/\entry P .normal nx=some F0/\
  ∀c rest,∃r h' β' w' r',K r none h'/\WR P β' h' w'/\Eff β h w β' h' w'/\RR β' r r'/\Steps P (lone F0 (c::rest) w) (lone (recv c r') rest w'):=by
 obtain⟨nx,F0,h1,h2,h3⟩:=hM β w fn' args' cap' hG hW hf ha hc;rw[hq]at h2;refine⟨nx,F0,h1,h2,λc rest=>?_⟩;obtain⟨r,pm',h',β',w',r',cs1,q1,q2,q3,q4,q5,q6⟩:=h3 (c::rest) (by rw[hq];simp);rw[hq]at q5;cases q5;refine⟨r,h',β',w',r',q1,q2,q3,q4,?_⟩;rcases q6 with⟨f,args,F1,_,s1,s2,s3,s4⟩|⟨_,s1⟩
 .rw[hq]at s3;refine s1.trans (.one ?_);cases q4 with
  |ok hv=>
   obtain⟨t1,t2,fn,t3,t4⟩:=s4;exact step_leave_returned ⟨t1,t2,s3,fn,t3,t4⟩
  |gT hch=>
   obtain⟨t1,t2,fn,t3⟩:=s4;exact step_leave_panicked ⟨t1,t2,fn,t3⟩
 .exact s1 c rest rfl
section
variable {ds:ae Tmp} {a:bB} {h:IH} {K:KO}
def ahw(hk:K .normal a h):qA P ds [] a h K:=by
 intro ops cz hv rest done S hp hds β0 h0 w0 kU kg cs0 β w b tm df k cs ρ hG hdom hcx hI hR hcs hro;cases rest with
 |cons i rest=>obtain⟨_,s,re,r,hl,_⟩:=hp;cases hl
 |nil=>
  obtain⟨β',w',tm',s1,s0,s2,s3,s4⟩:=Inv.finish hG hdom hp.2 b k cs ρ S β w tm hI hR;exact⟨.normal,a,h,β',w',tm',df,cs,hk,s3,s4,s2,hcs.mono s0,hro,s1⟩
variable{s:bW}{l:ae bW}
def come{ops:Array Oper}{cz:Nat->Nat->Bool}{hv:Nat->Bool}{i:Nat}{rest done S:ae Nat}(hp:BV P ops cz hv (i::rest) done (s::l))(l5:hv i=true)
 {β0:aI} {h0:IH} {w0:World} (hG:lZ P β0) (hdom:∀i g,β0 i=some g->i<h0.next) {β:aI} {w:World} {tm:Array ah} {df:ae Deferred} (hI:Inv P ops hv cz β0 h0 w0 done S β a h w tm df) {ρ:ae Nat} (hR:y9 ops cz S ρ) (b:Frame) (k:ae Item) (cs:ae Frame):
 ∃o S' β' w' tm' ρ',ops[i]? =some o/\cop P o=some s.s.op/\s.s.dst=o.dst/\Steps P (lone (fr b tm df (.inRegion ops ρ::k)) cs w) (lone (fr b tm' df (.inRegion ops (i::ρ')::k)) cs w')/\β.le β'/\Inv P ops hv cz β0 h0 w0 done S' β' a h w' tm' df/\
  y9 ops cz (i::S') ρ'/\xU ops cz hv done i/\BV P ops cz hv rest (i::done) l/\(∀j,cz i j=true->j∈S')/\(∀r,a.wants s.s.guard=some r->Region.wanted o (yielded ops tm')=r)/\lZ P β'/\(∀x∈o.op.operands,VR β' (a.eval x) (Act.eval ⟨tm',df⟩ x))/\
  (∀j∈done,j∉S'->∀t,mH P ops j=some t->FH t.op=true->t∈s.re):=by
 obtain⟨hstep,s1,re,r,hl,hcs,_,hre,nV⟩:=hp;obtain⟨rfl,rfl⟩:=hl;obtain⟨o,ho,iG,hdst,xV,hgd⟩:=qQ hcs;obtain⟨S',β',w',tm',ρ',t1,t0,t2,t3⟩:=Inv.flush hG hdom hstep l5 (λx hx hxd hxi IZ=>ahs P ops cz hv rest (i::done) l nV i tg l5 x hx (by simp[hxd,hxi]) IZ) b k cs ρ S β w tm hI hR;obtain⟨r1,r2,r3,r4⟩:=t3;have XQ:∀t,t∈looks ops o->¬waits ops done S' t:=by
  rintro t ht ⟨y,p,hy,hys,hp',nD⟩;exact hys (r3 y (hstep.look o ho y hy p hp' t nD ht))
 have hG':=hG.le (t2.wH.le hdom);refine⟨o,S',β',w',tm',ρ',ho,iG,hdst,t1,t0,t2,r4,hstep,nV,r3,λr hr=>Ny hgd t2.act XQ hr,hG',λx hx=>t2.act.eval hG' (xV x hx) λt ht=>XQ t (I9 (.inl ⟨x,hx,ht⟩)),?_⟩;intro j hj hjs t ht hrd;have hb:cz i j=false:=by
  grind
 exact hre l5 j hj (t2.RV hj hjs) hb t ht hrd
def ahx(hw:a.wants s.s.guard=some false)(ih:qA P ds l (a.put s.s.dst xJ) h K):qA P ds (s::l) a h K:=by
 intro ops cz hv rest done S hp hds β0 h0 w0 kU kg cs0 β w b tm df k cs ρ hG hdom hcx hI hR hcs hro;cases rest with
 |nil=>cases hp.1
 |cons i rest=>
  cases l5:hv i with
  |false=>
   obtain⟨hstep,s1,re,r,hl,hc1,hlt,_,nV⟩:=hp;obtain⟨rfl,rfl⟩:=hl;obtain⟨o,ho,_⟩:=qQ hc1;have hI2:=hI.ahead hstep l5 ho hc1 (hlt l5) (.inl ⟨hw,rfl,rfl⟩);exact iS
  |true=>
   obtain⟨o,S',β',w',tm',ρ',ho,iG,hdst,t1,t0,t2,r4,hstep,nV,hpre,hwant,hG',uY,hrr⟩:=come hp l5 hG hdom hI hR b k cs;have hs:=XH (P:=P) (b:=b) (tm:=tm') (df:=df) (k:=k) (cs:=cs) (w:=w') (ops:=ops) (i:=i) (rest:=ρ') (by simp[ho,hwant _ hw]);rw[ho]at hs;have hI2:=t2.sync hstep ho hpre (Eff.refl _ _ _ t2.wr.dom) t2.wr .skip (a2:=a.put s.s.dst xJ) (λt=>by rw[hdst]) (sG _ _ _) xo (.inl rfl);exact fg
def ahy(hw:a.wants s.s.guard=some true)(v:ah)(h':IH)(hr:s.s.op.run P a.eval h=some (v,h'))
 (hre:∀r∈s.re,(a.put s.s.dst v).wants r.guard≠some false->∃u h2,r.op.run P (a.put s.s.dst v).eval h'=some (u,h2)/\∀d,r.dst=some d->dU (a.put s.s.dst v).tmps d=u)
 (ih:qA P ds l (a.put s.s.dst v) h' K):qA P ds (s::l) a h K:=by
 intro ops cz hv rest done S hp hds β0 h0 w0 kU kg cs0 β w b tm df k cs ρ hG hdom hcx hI hR hcs hro;cases rest with
 |nil=>cases hp.1
 |cons i rest=>
  cases l5:hv i with
  |false=>
   obtain⟨hstep,s1,re,r,hl,hc1,hlt,_,nV⟩:=hp;obtain⟨rfl,rfl⟩:=hl;obtain⟨o,ho,_⟩:=qQ hc1;have hI2:=hI.ahead hstep l5 ho hc1 (hlt l5) (.inr ⟨hw,hr⟩);exact iS
  |true=>
   obtain⟨o,S',β',w',tm',ρ',ho,iG,hdst,t1,t0,t2,r4,hstep,nV,hpre,hwant,hG',uY,hrr⟩:=come hp l5 hG hdom hI hR b k cs;obtain⟨nx,w2,β2,v',g1,g2,g3,g4,g5⟩:=XF iG uY hr t2.wr;have hnd:∀c,o.op≠.defer c:=by
    intro cl hcl;obtain⟨dd,op,ty,ps,af,gd⟩:=o;subst hcl;obtain⟨callee,args,ats⟩:=cl;cases callee with
    |value f=>simp only[cop,bz]at iG;rw[<- iG]at hr;cases hr
    |invoke x n=>simp[cop]at iG
    |builtin bb=>simp[cop]at iG
   have hs:=Nw (b:=b) (k:=k) (cs:=cs) (rest:=ρ') ho (hwant _ hw) (.inr hnd) g1 g2;have hle:=g5.le t2.wr.dom;have hI2:=t2.sync hstep ho hpre g5 g4 g3 (a2:=a.put s.s.dst v) (λt=>by rw[hdst]) (sG _ _ _) BW
    (by grind)
   exact .of_steps (t1.trans (.one hs)) (ih ops cz hv rest (i::done) (i::S') nV hds β0 h0 w0 kU kg cs0 β2 w2 b _ df k cs ρ' hG hdom hcx hI2 r4 BY u9)
end
end Go.Ideal
namespace Go.Ideal
section
variable (P:Program)
mutual
inductive EV:dH->bB->IH->KO->Prop
 |skip {a:bB} {h:IH} {K:KO} (hk:K .normal a h):EV .skip a h K
 |ops {ds:List Tmp} {l:List bW} {a:bB} {h:IH} {K:KO} (ho:aJ ds l a h K):EV (.ops ds l) a h K
 |seq {x y:dH} {a:bB} {h:IH} {K:KO} (M:KO) (h1:EV x a h M) (h2:∀a' h',M .normal a' h'->EV y a' h' K)
   (h3:∀o a' h',M o a' h'->o≠.normal->K o a' h'):EV (.seq x y) a h K
 |R9 {c:Operand} {x y:dH} {a:bB} {h:IH} {K:KO} (hc:a.eval c=.bool true) (h1:EV x a h K):EV (.cond c x y) a h K
 |Sa {c:Operand} {x y:dH} {a:bB} {h:IH} {K:KO} (hc:a.eval c=.bool false) (h1:EV y a h K):EV (.cond c x y) a h K
 |block {id:Nat} {c:dH} {a:bB} {h:IH} {K:KO} (M:KO) (h1:EV c a h M) (h2:∀o a' h',M o a' h'->K (inBlock id o) a' h'):EV (.block id c) a h K
 |loop {c:dH} {a:bB} {h:IH} {K:KO} (M:KO) (h1:EV c a h M) (h2:∀a' h',M .normal a' h'->EV (.loop c) a' h' K)
   (h3:∀o a' h',M o a' h'->o≠.normal->K o a' h'):EV (.loop c) a h K
 |scope {c:dH} {a:bB} {h:IH} {K:KO} (h1:EV c a h K):EV (.scope c) a h K
 |exit {id:Nat} {a:bB} {h:IH} {K:KO} (hk:K (.exit id) a h):EV (.exit id) a h K
 |ret {a:bB} {h:IH} {K:KO} (hk:K .ret a h):EV .ret a h K
 |rangeFunc {f:Operand} {ps:List Tmp} {assign body:dH} {a:bB} {h:IH} {K:KO} (fn:Fn) (first captured:List Value)
   (hf:a.eval f=.func fn ⟨first⟩ ⟨captured⟩) (a1:bB) (h1:IH) (r:Nat)
   (hr:(a.ro=none/\a1={a with defers:={target:=.collected h.next,args:= #[]}::a.defers}/\h1=h.new (.lC true)/\r=h.next)\/
     (∃l0 r0,a.ro=some l0/\a1=a/\h1=h/\h.get l0=some (.loop r0)/\r=r0.defers))
   (M:KR)
   (hc:CALL ⟨fn,lX first [.func (.yield h1.next) #[] #[]],captured,none⟩
     (h1.new (.loop {state:=.ready,pending:=none,tmps:=a.tmps,n:=a.n,params:=ps,assign,body,defers:=r})) M)
   (hok:∀v pm h2,M (.ok v) pm h2->∃lp,h2.get h1.next=some (.loop lp)/\lp.state≠.busy/\K (lp.pending.getD .normal) a1 (h2.set h1.next (.loop {lp with state:=.exhausted})))
   (lI:∀ch pm h2,M (.gT ch) pm h2->K (.panic ch) a1 h2):EV (.rangeFunc f ps assign body) a h K
 |weaken {c:dH} {a:bB} {h:IH} {K:KO} (a0:bB) (hw:∀i,dU a0.tmps i=eO\/dU a0.tmps i=dU a.tmps i)
   (hn:a0.n=a.n/\a0.defers=a.defers/\a0.pm=a.pm/\a0.ro=a.ro) (h1:EV c a0 h K):EV c a h K
inductive aJ:List Tmp->List bW->bB->IH->KO->Prop
 |nil {ds:List Tmp} {a:bB} {h:IH} {K:KO} (hk:K .normal a h):aJ ds [] a h K
 |skip {ds:List Tmp} {s:bW} {l:List bW} {a:bB} {h:IH} {K:KO} (hw:a.wants s.s.guard=some false) (h1:aJ ds l (a.put s.s.dst xJ) h K):aJ ds (s::l) a h K
 |nC {ds:List Tmp} {s:bW} {l:List bW} {a:bB} {h:IH} {K:KO} (hw:a.wants s.s.guard=some true) (v:Value) (h':IH) (hr:s.s.op.run P a.eval h=some (v,h'))
   (hs:∀r∈s.re,(a.put s.s.dst v).wants r.guard≠some false->∃u h2,r.op.run P (a.put s.s.dst v).eval h'=some (u,h2)/\∀d,r.dst=some d->dU (a.put s.s.dst v).tmps d=u)
   (h1:aJ ds l (a.put s.s.dst v) h' K):aJ ds (s::l) a h K
 |call {ds:List Tmp} {s:bW} {l:List bW} {a:bB} {h:IH} {K:KO} (hw:a.wants s.s.guard=some true) (q:bD) (hq:Ac s.s.op a.eval=some q) (M:KR) (hc:CALL q h M)
   (hs:∀v pm h',M (.ok v) pm h'->∀r∈s.re,(a.put s.s.dst v).wants r.guard≠some false->∃u h2,r.op.run P (a.put s.s.dst v).eval h'=some (u,h2)/\∀d,r.dst=some d->dU (a.put s.s.dst v).tmps d=u)
   (hok:∀v pm h',M (.ok v) pm h'->aJ ds l (a.put s.s.dst v) h' K)
   (lI:∀ch pm h',M (.gT ch) pm h'->K (.panic ch) (forget ds a) h'):aJ ds (s::l) a h K
 |XR {ds:List Tmp} {s:bW} {l:List bW} {a:bB} {h:IH} {K:KO} (hw:a.wants s.s.guard=some true) (ho:s.s.op=.recover) (hre:s.re=[]) (hm:a.pm=none) (hro:a.ro=none)
   (h1:aJ ds l (a.put s.s.dst .nilIface) h K):aJ ds (s::l) a h K
 |recoverD {ds:List Tmp} {s:bW} {l:List bW} {a:bB} {h:IH} {K:KO} (hw:a.wants s.s.guard=some true) (ho:s.s.op=.recover) (hre:s.re=[]) (m:FrameMode) (hm:a.pm=some m) (hro:a.ro=none)
   (h1:aJ ds l ({a with pm:=some (mI m).2}.put s.s.dst (mI m).1) h K):aJ ds (s::l) a h K
 |panic {ds:List Tmp} {s:bW} {l:List bW} {a:bB} {h:IH} {K:KO} (hw:a.wants s.s.guard=some true) (x:Operand) (ho:s.s.op=.panic x) (t:TypeId) (v:Value) (hx:a.eval x=.iface t v)
   (hk:K (.panic [{v:=.iface t v,recovered:=false}]) (forget ds a) h):aJ ds (s::l) a h K
 |defer {ds:List Tmp} {s:bW} {l:List bW} {a:bB} {h:IH} {K:KO} (hw:a.wants s.s.guard=some true) (f:Operand) (args:List Operand) (ho:s.s.op=.dcall f args) (hre:s.re=[]) (hro:a.ro=none)
   (fn:Fn) (first captured:List Value) (hf:a.eval f=.func fn ⟨first⟩ ⟨captured⟩)
   (h1:aJ ds l ({a with defers:={target:=.fn fn ⟨captured⟩,args:=⟨lX first (nQ a.eval args)⟩}::a.defers}.put s.s.dst eO) h K):aJ ds (s::l) a h K
 |next {ds:List Tmp} {s:bW} {l:List bW} {a:bB} {h:IH} {K:KO} (hw:a.wants s.s.guard=some true) (x:Operand) (ho:s.s.op=.zZ x) (hre:s.re=[]) (alts:List (Value×IH))
   (ha:DJ (a.eval x) h=some alts) (h1:∀vh∈alts,aJ ds l (a.put s.s.dst vh.1) vh.2 K):aJ ds (s::l) a h K
inductive LEAVE:iL->T Value->List Deferred->FrameMode->IH->(jy->IH->Prop)->Prop
 |ret {cf:iL} {ts:T Value} {h:IH} {K:jy->IH->Prop} (v:Value) (hv:uj cf.results ts h=some v) (hk:K (.ok v) h):LEAVE cf ts [] .returning h K
 |gT {cf:iL} {ts:T Value} {h:IH} {K:jy->IH->Prop} (ch:List PanicEntry) (hk:K (.gT ch) h):LEAVE cf ts [] (.panicking ch) h K
 |coll {cf:iL} {ts:T Value} {args:Array Value} {ds:List Deferred} {m:FrameMode} {h:IH} {K:jy->IH->Prop} (hm:m≠.run) (r:Nat) (hr:h.get r=some (.lC true))
   (h1:LEAVE cf ts ds m (h.set r (.lC false)) K):LEAVE cf ts ({target:=.collected r,args}::ds) m h K
 |call {cf:iL} {ts:T Value} {fn:Fn} {captured args:List Value} {ds:List Deferred} {m:FrameMode} {h:IH} {K:jy->IH->Prop} (hm:m≠.run) (M:KR)
   (hc:CALL ⟨fn,args,captured,some m⟩ h M)
   (hpm:∀r pm h',M r pm h'->pm≠none)
   (hok:∀v m' h',M (.ok v) (some m') h'->LEAVE cf ts ds (BJ m') h' K)
   (lI:∀ch m' h',M (.gT ch) (some m') h'->LEAVE cf ts ds (FJ m' ch) h' K):LEAVE cf ts ({target:=.fn fn ⟨captured⟩,args:=⟨args⟩}::ds) m h K
inductive CALL:bD->IH->KR->Prop
 |enter {q:bD} {h:IH} {K:KR} (f:FuncId) (args:List Value) (ht:target P q=some (f,args)) (fn:Func) (hf:P.funcs[f]? =some fn) (cf:iL) (hcf:xL P fn=some cf)
   (M:KO) (h1:EV cf.body (DI cf.ntmps args q.pm) h M)
   (h2:∀o a' h',M o a' h'->xM o≠none)
   (h3:∀o a' h' m,M o a' h'->xM o=some m->LEAVE cf a'.tmps a'.defers m h' λr h''=>K r a'.pm h''):CALL q h K
 |round {q:bD} {h:IH} {K:KR} (l:Nat) (hq:q.fn=.yield l) (hpm:q.pm=none) (r:qy) (hr:h.get l=some (.loop r)) (hargs:q.args.length=r.params.length)
   (M:KO) (h1:EV r.assign {n:=r.n,tmps:=BK r.n r.params q.args r.tmps,defers:=[],pm:=none,ro:=some l} h M)
   (h2:∀o a' h',M o a' h'->o=.normal/\∃r1,h'.get l=some (.loop r1)/\r1.state=.ready)
   (h3:∀a' h' r1,M .normal a' h'->h'.get l=some (.loop r1)->
     EV r.body a' (h'.set l (.loop {r1 with state:=.busy})) λo a'' h''=>∃r2,h''.get l=some (.loop r2)/\a''.defers=[]/\
      match o with
      | .panic ch=>K (.gT ch) none h''
      | .normal=>K (.ok (.bool true)) none (h''.set l (.loop {r2 with state:=.ready,pending:=none}))
      |o=>K (.ok (.bool false)) none (h''.set l (.loop {r2 with state:=.done,pending:=some o}))):CALL q h K
 |cut {q:bD} {h:IH} {K:KR} (cs:List Value) (n f:Nat) (hcs:gJ cs=true) (hne:cs≠[]) (hf:f=0\/cs.length=n*f) (M:KR) (hc:CALL q {h with low:=h.next} M) (hq:q.pm=none)
   (h1:∀r pm h',M r pm h'->pm=none/\h'.low=h.next/\∃i o c,r=.ok (.slice (some ⟨i,o,some f⟩) n c)/\h.next<=i/\(f=0->c=n)/\h'.qa i o cs.length=some cs)
   (hk:K (.ok (.slice (some ⟨h.next,0,some f⟩) n n)) none (h.new (.cells cs))):CALL q h K
 |jP {q:bD} {h:IH} {K:KR} (M:KR) (hc:CALL q h M) (hk:∀r pm h',M r pm h'->K r pm h'):CALL q h K
 |forget {q:bD} {h:IH} {K:KR} (M:KR) (hc:CALL q h M)
   (hk:∀r pm h',M r pm h'->∃h'',h''.next=h'.next/\h''.low=h'.low/\(∀i,h''.get i=h'.get i\/(h.next<=i/\h''.get i=none))/\K r pm h''):CALL q h K
 |memo {q:bD} {h:IH} {K:KR} (h0:IH) (v:Value) (hv:cB v=true) (hq:q.pm=none) (hfn:qN h0.next (.func q.fn ⟨q.args⟩ ⟨q.captured⟩)=true)
   (hnext:h0.next<=h.next) (hgl:P.globals.size<=h0.next)
   (hsub:∀i o,h0.get i=some o->i<h0.next/\h.get i=some o/\Iw h0.next o=true)
   (M:KR) (hc:CALL q h0 M) (h1:∀r pm h',M r pm h'->pm=none/\r=.ok v/\h'.low=h0.next)
   (hk:K (.ok v) none h):CALL q h K
 /-- a call that is known of the model itself -/
 |real {q:bD} {h:IH} {K:KR} (hm:l6 P q h K):CALL q h K
end
end
end Go.Ideal
namespace Go.Ideal
variable {P:Program}
variable{o:Oper}{args:ae az}{f:az}
def ahz(hc:cop P o=some (.call f args)):∃cl,o.op=.call cl/\cl.callee=.value f/\cl.args.toList=args:=by
 exact eC
variable{x:az}
def ahA{n:String}(hc:cop P o=some (.invoke x n args)):∃cl,o.op=.call cl/\cl.callee=.invoke x n/\cl.args.toList=args:=by
 obtain⟨dst,op,type,pos,after,guard⟩:=o;simp only[cop]at hc;repeat' split at hc
 all_goals first
  |contradiction
  |(cases hc;done)
  |(done)
  |(simp only[lq,reduceCtorEq,and_false,exists_false]at hc)
  |(obtain⟨rfl,rfl,rfl⟩:=hc
    exact⟨_,rfl,rfl,rfl⟩)
def ahB(hc:cop P o=some .recover):∃cl,o.op=.call cl/\cl.callee=.builtin .recover:=by
 obtain⟨dst,op,type,pos,after,guard⟩:=o;simp only[cop]at hc;repeat' split at hc
 all_goals first
  |contradiction
  |(cases hc;done)
  |(done)
  |(simp only[lq,reduceCtorEq,and_false,exists_false]at hc;done)
  |exact⟨_,rfl,rfl⟩
def ahC(hc:cop P o=some (.panic x)):o.op=.panic x\/∃cl,o.op=.call cl/\cl.callee=.builtin .panic/\cl.args.toList=[x]:=by
 obtain⟨dst,op,type,pos,after,guard⟩:=o;simp only[cop]at hc;repeat' split at hc
 all_goals first
  |contradiction
  |(cases hc;done)
  |(done)
  |(simp only[lq,reduceCtorEq,and_false,exists_false]at hc;done)
  |(simp only[bz,aK.panic.injEq]at hc;subst hc;exact .inl rfl)
  |(simp only[bz,aK.panic.injEq]at hc;subst hc;exact .inr ⟨_,rfl,rfl,by assumption⟩)
def ahD(hc:cop P o=some (.dcall f args)):∃cl,o.op=.defer cl/\cl.callee=.value f/\cl.args.toList=args:=by
 exact eC
def ahE(hc:cop P o=some (.zZ x)):o.op=.next x false:=by
 obtain⟨dst,op,type,pos,after,guard⟩:=o;simp only[cop]at hc;repeat' split at hc
 all_goals first
  |contradiction
  |(cases hc;done)
  |(done)
  |(simp only[lq,reduceCtorEq,and_false,exists_false]at hc;done)
  |(simp only[bz,aK.zZ.injEq]at hc;subst hc;rfl)
variable{c:aK}{q:bD}{β:aI}{ρ:az->ah}
def ahF{ρ':az->ah}(hc:cop P o=some c)(hq:Ac c ρ=some q)(hρ:∀x∈o.op.operands,VR β (ρ x) (ρ' x)):
 q.pm=none/\∃fn' args' cap',FR β q.fn fn'/\aY β q.args args'/\aY β q.captured cap'/\(∀w,(execOp ρ' o).run P w=(invoke (.fn fn' ⟨cap'⟩) ⟨args'⟩).run P w)/\∃cl,o.op=.call cl:=by
 unfold Ac at hq;split at hq
 .rename_i f args;obtain⟨cl,h1,h2,h3⟩:=ahz hc;obtain⟨callee,nG,ats⟩:=cl;subst h2 h3;have hops:∀x∈(Op.call {callee:=.value f,args:=nG,argTypes:=ats}).operands,VR β (ρ x) (ρ' x):=by rw[<- h1];exact hρ
  have hf:=hops f AE;have ha:∀x∈nG.toList,VR β (ρ x) (ρ' x):=λx hx=>hops x AF;split at hq
  .rename_i fn first captured Aj
   simp only[bz]at hq;subst hq;rw[Aj]at hf;obtain⟨fn',f',c',k1,k2,k3,k4⟩:=hf.BQ;refine⟨rfl,fn',f'++nG.toList.map ρ',c',k1,?_,k3,λw=>?_,_,h1⟩
   .rw[jO];exact k2.append (aY.of_map ha)
   .obtain⟨dst,op,type,pos,after,guard⟩:=o;subst h1;have he:(⟨f'⟩:Array ah)++nG.map ρ'=⟨f'++nG.toList.map ρ'⟩:=by apply Array.ext';simp
    exact rB
  .cases hq
 .rename_i x name args;obtain⟨cl,h1,h2,h3⟩:=ahA hc;obtain⟨callee,nG,ats⟩:=cl;subst h2 h3;have hops:∀y∈(Op.call {callee:=.invoke x name,args:=nG,argTypes:=ats}).operands,VR β (ρ y) (ρ' y):=by rw[<- h1];exact hρ
  have hx:=hops x AE;have ha:∀x∈nG.toList,VR β (ρ x) (ρ' x):=λx hx=>hops x AF;simp only[bz]at hq;subst hq;refine⟨rfl,.method name,ρ' x::nG.toList.map ρ',[],.method name,.cons hx (aY.of_map ha),.nil,λw=>?_,_,h1⟩;obtain⟨dst,op,type,pos,after,guard⟩:=o;subst h1;have he:(#[ρ' x]:Array ah)++nG.map ρ'=⟨ρ' x::nG.toList.map ρ'⟩:=vi
  simp only[execOp,resolve,dS,fM,eX,he]
 .cases hq
def ahG(hq:Ac c ρ=some q):heavy c=true:=by
 unfold Ac at hq;split at hq
 .rfl
 .rfl
 .cases hq
def ahH(d:Tmp)(ds:ae Tmp)(a:bB):forget (d::ds) a=forget ds (a.set d eO):=rfl
def Sb(ds:ae Tmp):∀(a:bB),(∀i,a.n<=i->dU a.tmps i=eO)->(forget ds a).n=a.n/\(forget ds a).defers=a.defers/\(forget ds a).pm=a.pm/\(forget ds a).ro=a.ro/\(∀i,a.n<=i->dU (forget ds a).tmps i=eO)/\
 ∀t,dU (forget ds a).tmps t=eO\/(t∉ds/\dU (forget ds a).tmps t=dU a.tmps t):=by
 induction ds with
 |nil=>intro a ho;exact⟨rfl,rfl,rfl,rfl,ho,λt=>.inr ⟨tg,rfl⟩⟩
 |cons d ds ih=>
  intro a ho;rw[ahH];have hput:a.set d eO=a.put (some d) eO:=rfl;have ho2:∀i,(a.set d eO).n<=i->dU (a.set d eO).tmps i=eO:=λi hi=>by
   rw[hput,sG]at hi;rw[hput,wI,if_neg (by grind)];exact ho i hi
  obtain⟨h1,h2,h3,h4,h5,h6⟩:=ih (a.set d eO) ho2;rw[hput,sG]at h1 h5;rw[hput,put_defers]at h2;rw[hput,xW]at h3;rw[hput,xX]at h4;refine⟨h1,h2,h3,h4,h5,λt=>?_⟩;rcases h6 t with e|⟨e1,e2⟩
  .exact .inl e
  .rw[hput,wI]at e2
   grind
def AR.forget{X:Nat->Prop}{a:bB}{tm:Array ah}{df:ae Deferred}(k:AR β X a tm df){ds:ae Tmp}(h:∀t,X t->t∈ds):AR β none' (Ideal.forget ds a) tm df:=by
 obtain⟨h1,h2,h3,h4,h5,h6⟩:=Sb ds a k.out;refine⟨by rw[h1];exact k.size,λt _=>?_,by rw[h1];exact h5,by rw[h2];exact k.defers⟩;rcases h6 t with e|⟨e1,e2⟩
 .rw[e];exact .eO _
 .rw[e2];exact k.tmps t λhx=>e1 (h t hx)
section
variable {ds:ae Tmp} {a:bB} {h:IH} {K:KO}
variable{s:bW}{l:ae bW}
def F6{ops:Array Oper}{cz:Nat->Nat->Bool}{hv:Nat->Bool}{i:Nat}{rest done:ae Nat}(hp:BV P ops cz hv (i::rest) done (s::l))(hh:heavy s.s.op=true):hv i=true:=by
 obtain⟨_,s1,re,r,hl,_,hlt,_⟩:=hp
 grind
def ahI(hw:a.wants s.s.guard=some true)(q:bD)(hq:Ac s.s.op a.eval=some q)(M:KR)(hc:l6 P q h M)
 (hre:∀v pm h',M (.ok v) pm h'->∀r∈s.re,(a.put s.s.dst v).wants r.guard≠some false->∃u h2,r.op.run P (a.put s.s.dst v).eval h'=some (u,h2)/\∀d,r.dst=some d->dU (a.put s.s.dst v).tmps d=u)
 (ih:∀v pm h',M (.ok v) pm h'->qA P ds l (a.put s.s.dst v) h' K)
 (lI:∀ch pm h',M (.gT ch) pm h'->K (.panic ch) (forget ds a) h'):qA P ds (s::l) a h K:=by
 intro ops cz hv rest done S hp hds β0 h0 w0 kU kg cs0 β w b tm df k cs ρ hG hdom hcx hI hR hcs hro;cases rest with
 |nil=>cases hp.1
 |cons i rest=>
  have l5:=F6 hp (ahG hq);obtain⟨o,S',β',w',tm',ρ',ho,iG,hdst,t1,t0,t2,r4,hstep,nV,hpre,hwant,hG',uY,hrr⟩:=come hp l5 hG hdom hI hR b k cs;obtain⟨ahJ,fn',args',cap',k1,k2,k3,k4,cl,k5⟩:=ahF iG hq uY;have hnd:∀c,o.op≠.defer c:=by rw[k5];simp
  obtain⟨nx,F0,n1,n2,n3⟩:=hc.call ahJ hG' t2.wr k1 k2 k3;rw[<- k4]at n1;have henter:step P (lone (fr b tm' df (.inRegion ops (i::ρ')::k)) cs w')=.next (lone F0 (fr b tm' df (.inRegion ops (i::ρ')::k)::cs) w'):=by
   cases nx<;>simp only[entry,bz,reduceCtorEq]at n2
   .subst n2;exact ahk ho (hwant _ hw) (.inr hnd) n1
   .subst n2;exact ahl ho (hwant _ hw) (.inr hnd) n1
  obtain⟨r,h',β2,w2,r',q1,q2,q3,q4,q5⟩:=n3 (fr b tm' df (.inRegion ops (i::ρ')::k)) cs;have hle:=q3.le t2.wr.dom;cases q4 with
  | @ok v v' hvv=>
    have hfin:recv (fr b tm' df (.inRegion ops (i::ρ')::k)) (.returned v')=fr b (sF tm' o.dst v') df (.inRegion ops ρ'::k):=by
     have:=I6 (b:=b) (tm:=tm') (df:=df) (k:=k) (ops:=ops) (i:=i) (rest:=ρ') (v:=v');rw[ho]at this;exact this
    rw[hfin]at q5;have hI2:=t2.sync hstep ho hpre q3 q2 hvv (a2:=a.put s.s.dst v) (λt=>by rw[hdst]) (sG _ _ _) (df2:=df) BW
     (by grind)
    exact .of_steps (t1.trans (.head henter q5)) (ih v none h' q1 ops cz hv rest (i::done) (i::S') nV hds β0 h0 w0 kU kg cs0 β2 w2 b _ df k cs ρ' hG hdom hcx hI2 r4 BY u9)
  | @gT ch ch' hch=>
    have hx:∀t,waits ops done S' t->t∈ds:=by
     exact sg
    obtain⟨f1,f2,f3,f4,_,_⟩:=Sb ds a t2.act.out;refine .of_steps (t1.trans (.head henter q5)) ⟨.panic ch,forget ds a,h',β2,w2,tm',df,cs,lI ch none h' q1,q2,t2.wH.trans q3,(t2.act.forget hx).mono hle,by rw[f3];exact(hcs.mono t0).mono hle,by rw[f4];exact hro,.inRegion ops (i::ρ')::k,ch',hch,?_⟩;exact Steps.refl P _
def ahK(hw:a.wants s.s.guard=some true)(x:az)(hop:s.s.op=.panic x)(t:aF)(v:ah)(hx:a.eval x=.iface t v)
 (hk:K (.panic [{v:=.iface t v,recovered:=false}]) (forget ds a) h):qA P ds (s::l) a h K:=by
 intro ops cz hv rest done S hp hds β0 h0 w0 kU kg cs0 β w b tm df k cs ρ hG hdom hcx hI hR hcs hro;cases rest with
 |nil=>cases hp.1
 |cons i rest=>
  have l5:=F6 hp wl;obtain⟨o,S',β',w',tm',ρ',ho,iG,hdst,t1,t0,t2,r4,hstep,nV,hpre,hwant,hG',uY,hrr⟩:=come hp l5 hG hdom hI hR b k cs;rw[hop]at iG;have hrun:∃v',VR β' v v'/\(execOp (Act.eval ⟨tm',df⟩) o).run P w'=.halt (.panic (.iface t v')) w'/\∀c,o.op≠.defer c:=by
   rcases ahC iG with h1|⟨cl,h1,h2,h3⟩
   .have hxv:=uY x (by rw[h1];simp[Op.operands]);rw[hx]at hxv;obtain⟨v',hv',he⟩:=hxv.DU;refine⟨v',hv',?_,by rw[h1];simp⟩;obtain⟨dst,op,type,pos,after,guard⟩:=o;simp only at h1;subst h1;simp[execOp,he,Instr.panic]
   .obtain⟨callee,nG,ats⟩:=cl;simp only at h2 h3;subst h2
    have hxv:=uY x (by rw[h1];simp only[Op.operands,Call.operands,Ib];right;have:x∈nG.toList:=by rw[h3];simp
                       simpa using this)
    rw[hx]at hxv;obtain⟨v',hv',he⟩:=hxv.DU;obtain rfl:nG= #[x]:=by grind
    refine⟨v',hv',?_,by rw[h1];simp⟩;obtain⟨dst,op,type,pos,after,guard⟩:=o;simp only at h1;subst h1;rw[DW];simp[builtin,he,Instr.panic]
  obtain⟨v',hv',hr,hnd⟩:=hrun;have hs:=ahm (P:=P) (b:=b) (k:=k) (cs:=cs) (rest:=ρ') ho (hwant _ hw) (.inr hnd) hr;have Jd:∀t,waits ops done S' t->t∈ds:=by
   exact sg
  obtain⟨f1,f2,f3,f4,_,_⟩:=Sb ds a t2.act.out;exact .of_steps (t1.trans (.one hs)) ⟨_,forget ds a,h,β',w',tm',df,cs,hk,t2.wr,t2.wH,t2.act.forget Jd,by rw[f3];exact hcs.mono t0,by rw[f4];exact hro,.inRegion ops (i::ρ')::k,[{v:=.iface t v',recovered:=false}],.cons (.iface t hv') rfl rfl .nil,Steps.refl P _⟩
def ahL(hw:a.wants s.s.guard=some true)(f:az)(args:ae az)(hop:s.s.op=.dcall f args)(hre:s.re=[])(XT:a.ro=none)
 (fn:Fn) (first captured:ae ah) (hf:a.eval f=.func fn ⟨first⟩ ⟨captured⟩)
 (ih:qA P ds l ({a with defers:={target:=.fn fn ⟨captured⟩,args:=⟨lX first (nQ a.eval args)⟩}::a.defers}.put s.s.dst eO) h K):qA P ds (s::l) a h K:=by
 intro ops cz hv rest done S hp hds β0 h0 w0 kU kg cs0 β w b tm df k cs ρ hG hdom hcx hI hR hcs hro;cases rest with
 |nil=>cases hp.1
 |cons i rest=>
  have l5:=F6 hp wl;obtain⟨o,S',β',w',tm',ρ',ho,iG,hdst,t1,t0,t2,r4,hstep,nV,hpre,hwant,hG',uY,hrr⟩:=come hp l5 hG hdom hI hR b k cs;rw[hop]at iG;obtain⟨cl,h1,h2,h3⟩:=ahD iG;obtain⟨callee,nG,ats⟩:=cl;subst h2 h3;have hops:∀x∈(Op.defer {callee:=.value f,args:=nG,argTypes:=ats}).operands,VR β' (a.eval x) (Act.eval ⟨tm',df⟩ x):=by rw[<- h1];exact uY
  have Aj:=hops f AE;have Je:∀x∈nG.toList,VR β' (a.eval x) (Act.eval ⟨tm',df⟩ x):=λx hx=>hops x AF;rw[hf]at Aj;obtain⟨fn',f',c',k1,k2,k3,k4⟩:=Aj.BQ;have Jf:b.roundOf=none:=by
   exact lP
  have hr:(execOp (Act.eval ⟨tm',df⟩) o).run P w'=.ok (.defer {target:=.fn fn' ⟨c'⟩,args:=⟨f'++nG.toList.map (Act.eval ⟨tm',df⟩)⟩}) w':=by
   obtain⟨dst,op,type,pos,after,guard⟩:=o;subst h1;have he:(⟨f'⟩:Array ah)++nG.map (Act.eval ⟨tm',df⟩)=⟨f'++nG.toList.map (Act.eval ⟨tm',df⟩)⟩:=vi
   exact rB
  have hs:=ahn (P:=P) (b:=b) (k:=k) (cs:=cs) (rest:=ρ') ho (hwant _ hw) Jf hr;have hI2:=t2.sync hstep ho hpre (Eff.refl _ _ _ t2.wr.dom) t2.wr (v:=eO) (v':=undef) (.eO _) (a2:=({a with defers:={target:=.fn fn ⟨captured⟩,args:=⟨lX first (nQ a.eval nG.toList)⟩}::a.defers}:bB).put s.s.dst eO)
   (λt=>by rw[wI,wI,hdst]) (sG _ _ _) (df2:={target:=.fn fn' ⟨c'⟩,args:=⟨f'++nG.toList.map (Act.eval ⟨tm',df⟩)⟩}::df) (by
     rw[put_defers];refine .fn k1 k3 ?_ t2.act.defers;rw[jO];exact k2.append (aY.of_map Je)) (.inl rfl)
  exact .of_steps (t1.trans (.one hs)) (ih ops cz hv rest (i::done) (i::S') nV hds β0 h0 w0 kU kg cs0 β' w' b _ _ k cs ρ' hG hdom hcx hI2 r4 (by rw[xW];exact hcs.mono t0) u9)
def XU{o:Oper}(hc:cop P o=some .recover)(ρ:az->ah)(w:World):(execOp ρ o).run P w=.ok .recover w:=by
 obtain⟨cl,h1,h2⟩:=ahB hc;obtain⟨callee,nG,ats⟩:=cl;subst h2;obtain⟨dst,op,type,pos,after,guard⟩:=o;subst h1;rfl
def ahM(hw:a.wants s.s.guard=some true)(hop:s.s.op=.recover)(hre:s.re=[])(hm:a.pm=none)(XT:a.ro=none)(ih:qA P ds l (a.put s.s.dst .nilIface) h K):qA P ds (s::l) a h K:=by
 intro ops cz hv rest done S hp hds β0 h0 w0 kU kg cs0 β w b tm df k cs ρ hG hdom hcx hI hR hcs hro;cases rest with
 |nil=>cases hp.1
 |cons i rest=>
  have l5:=F6 hp wl;obtain⟨o,S',β',w',tm',ρ',ho,iG,hdst,t1,t0,t2,r4,hstep,nV,hpre,hwant,hG',uY,hrr⟩:=come hp l5 hG hdom hI hR b k cs;rw[hop]at iG;have Jf:b.roundOf=none:=by
   exact lP
  have hkind:b.kind=.normal:=by
   have h1:=hcx.kind;rw[hm]at hcs;cases hcs;exact h1
  have hs:=XI (k:=k) (cs:=cs) (rest:=ρ') ho (hwant _ hw) Jf (XU iG (Act.eval ⟨tm',df⟩) w');have htr:tryRecover (fr b tm' df (.inRegion ops (i::ρ')::k)) cs=none:=by
   have:(fr b tm' df (.inRegion ops (i::ρ')::k)).kind=.normal:=hkind;unfold tryRecover;rw[this]
  rw[htr]at hs;have hI2:=t2.sync hstep ho hpre (Eff.refl _ _ _ t2.wr.dom) t2.wr .nilIface (a2:=a.put s.s.dst .nilIface) (λt=>by rw[hdst]) (sG _ _ _) xo (.inl rfl);exact fg
def ahN{β:aI}{m:FrameMode}{c:Frame}(hm:MR β m c.mode)(rest:ae Frame):(∃v' mr,recoverD (c::rest)=some (v',{c with mode:=mr}::rest)/\VR β (mI m).1 v'/\MR β (mI m).2 mr)\/(recoverD (c::rest)=none/\(mI m).1=.nilIface/\(mI m).2=m):=by
 cases hcm:c.mode with
 |run=>rw[hcm]at hm;cases hm;simp[recoverD,hcm,mI]
 |returning=>rw[hcm]at hm;cases hm;simp[recoverD,hcm,mI]
 |panicking ch=>
  rw[hcm]at hm;cases hm with
  |panicking hp=>
   cases hp with
   |nil=>simp[recoverD,hcm,mI]
   | @cons e e' l l' hv hr hg hl=>
     obtain⟨ev,er,eg⟩:=e';cases her:e.recovered with
     |true=>subst hr;simp[recoverD,hcm,mI,her]
     |false=>
      cases NB:e.goexit with
      |true=>subst hg;simp[recoverD,hcm,mI,NB]
      |false=>
       rw[her]at hr;rw[NB]at hg;subst hr hg;left;refine⟨ev,.panicking ({v:=ev,recovered:=true}::l'),by simp[recoverD,hcm],?_,?_⟩
       .simp only[mI,her,NB,cond_false];exact hv
       .simp only[mI,her,NB,cond_false];exact .panicking (.cons hv rfl rfl hl)
def ahO(hw:a.wants s.s.guard=some true)(hop:s.s.op=.recover)(hre:s.re=[])(m:FrameMode)(hm:a.pm=some m)(XT:a.ro=none)
 (ih:qA P ds l ({a with pm:=some (mI m).2}.put s.s.dst (mI m).1) h K):qA P ds (s::l) a h K:=by
 intro ops cz hv rest done S hp hds β0 h0 w0 kU kg cs0 β w b tm df k cs ρ hG hdom hcx hI hR hcs hro;cases rest with
 |nil=>cases hp.1
 |cons i rest=>
  have l5:=F6 hp wl;obtain⟨o,S',β',w',tm',ρ',ho,iG,hdst,t1,t0,t2,r4,hstep,nV,hpre,hwant,hG',uY,hrr⟩:=come hp l5 hG hdom hI hR b k cs;rw[hop]at iG;have Jf:b.roundOf=none:=by
   exact lP
  have hcs2:=hcs.mono t0;rw[hm]at hcs2;have ahP:=hcx.kind;cases hcs2 with
  |some m0 _ c0 F7 mr hmr=>
  have hkind:(fr b tm' df (.inRegion ops (i::ρ')::k)).kind=.deferred:=ahP;have hs:=XI (P:=P) (b:=b) (k:=k) (cs:={c0 with mode:=mr}::F7) (rest:=ρ') ho (hwant _ hw) Jf (XU iG (Act.eval ⟨tm',df⟩) w');rw[tryRecover_deferred hkind]at hs;have sync:=λv' hv'=>
   t2.sync hstep ho hpre (Eff.refl _ _ _ t2.wr.dom) t2.wr (v':=v') hv' (a2:=({a with pm:=some (mI m).2}:bB).put s.s.dst (mI m).1)
    (λt=>by rw[wI,wI,hdst]) (sG _ _ _) xo (.inl rfl)
  rcases ahN (c:={c0 with mode:=mr}) hmr F7 with⟨v',R7,e1,e2,e3⟩|⟨e1,e2,e3⟩
  .rw[e1]at hs;exact .of_steps (t1.trans (.one hs)) (ih ops cz hv rest (i::done) (i::S') nV hds β0 h0 w0 (some m0) kg (c0::F7) β' w' b _ df k _ ρ' hG hdom hcx (sync v' e2) r4 (by rw[xW];exact .some m0 _ c0 F7 R7 e3) u9)
  .rw[e1]at hs;exact .of_steps (t1.trans (.one hs)) (ih ops cz hv rest (i::done) (i::S') nV hds β0 h0 w0 (some m0) kg (c0::F7) β' w' b _ df k _ ρ' hG hdom hcx (sync .nilIface (by rw[e2];exact .nilIface)) r4 (by rw[xW,e3];exact .some m0 _ c0 F7 mr hmr) u9)
end
end Go.Ideal
namespace Go.Ideal
variable {P:Program}
variable{β:aI}
def iy.filter(p:Nat->Bool){l l':ae MapEntry}(he:iy β l l'):iy β (l.filter λe=>p e.born) (l'.filter λe=>p e.born):=by
 induction he with
 |nil=>exact .nil
 | @cons e e' l l' hk hf hb hv hl ih=>
   simp only[QT,hb];split
   .exact .cons hk hf hb hv ih
   .exact ih
variable{l l':ae MapEntry}
def iy.mem(he:iy β l l'){e':MapEntry}(hm:e'∈l'):∃e∈l,e'.key=e.key/\cB e.key=true/\e'.born=e.born/\VR β e.val e'.val:=by
 induction he with
 |nil=>simp at hm
 | @cons e e1 l l' hk hf hb hv hl ih=>
   grind
def iy.append{r r':ae MapEntry}(he:iy β l l')(h2:iy β r r'):iy β (l++r) (l'++r'):=by
 induction he with
 |nil=>exact h2
 |cons hk hf hb hv hl ih=>exact .cons hk hf hb hv ih
def iy.all(p:Nat->Bool){l l':ae MapEntry}(he:iy β l l'):(l'.all λe=>p e.born)=l.all λe=>p e.born:=by
 induction he with
 |nil=>rfl
 |cons hk hf hb hv hl ih=>grind
def iy.isEmpty(he:iy β l l'):l'.isEmpty=l.isEmpty:=by cases he<;>rfl
def ahQ(n:Nat)(hn:0<n)(w:World):∃k w1,(choose (.mapNext n)).run P w=.ok k w1/\k<n/\w1.heap=w.heap/\w1.os=w.os/\w1.tape=w.tape/\w1.output=w.output/\w.drawn<=w1.drawn:=by
 rw[run_choose];by_cases h:n<=1
 .exact⟨0,w,by simp[Question.forced,h],hn,rfl,rfl,rfl,rfl,bI _⟩
 .exact⟨(Question.mapNext n).cut (w.tape w.drawn (.mapNext n)),{w with drawn:=w.drawn+1},by rw[if_neg (by simp[Question.forced];omega)],zX _ hn,rfl,rfl,rfl,rfl,Dl _⟩
variable{h:IH}
def ahR{w:World}{v v':ah}{alts:ae (ah×IH)}(ha:DJ v h=some alts)(hv:VR β v v')(hW:WR P β h w)(ty:aF):
 ∃vh∈alts,∃r' w',(Instr.next v' false ty).run P w=.ok r' w'/\VR β vh.1 r'/\WR P β vh.2 w'/\Eff β h w β vh.2 w':=by
 unfold DJ at ha;split at ha
 .rename_i r;obtain⟨g,hb,hv'⟩:=hv.xS;split at ha
  .rename_i since seen last hg;simp only[bz]at ha;subst ha;obtain⟨m',seen',o1,o2,o3,o4⟩:=hW.obj r g _ hb hg;rw[o4]at hv';have hm':m'=none:=by cases o3;rfl
   subst hm';refine⟨_,bS.2 rfl,.tuple #[.bool false],w,?_,.tuple (.cons (.bool _) .nil),hW,Eff.refl _ _ _ hW.dom⟩;subst hv';simp only[Instr.next,Dm,dS,Ah o1 tg,eX,fM]
  .rename_i m since seen last hg;split at ha
   .rename_i es clock hgm;obtain⟨m',seen',o1,o2,o3,o4⟩:=hW.obj r g _ hb hg;rw[o4]at hv';obtain⟨gm,FY,hm'⟩:∃gm,β m=some gm/\m'=some gm.b:=by
     obtain⟨gm,a,b⟩:=o3.FX;exact⟨gm,a,by simpa using b⟩
    subst hm' hv';obtain⟨es',p1,p2⟩:=hW.obj m gm _ FY hgm;cases hc:(!seen.isEmpty&&!es.isEmpty&&es.all (λe=>Nat.ble last e.born))with
    |true=>rw[hc]at ha;cases ha
    |false=>
    rw[hc]at ha;simp only[cond_false,bz]at ha;let left:=es.filter λe=>!seen.contains e.born
    let left':=es'.filter λe=>!seen'.contains e.born
    have hcont:∀n,seen'.contains n=seen.contains n:=λn=>by rw[<- o2];simp
    have hleft:iy β left left'.toList:=by
     have:=p2.filter (λn=>!seen.contains n);have h2:left'.toList=es'.toList.filter λe=>!seen.contains e.born:=by
      show(es'.filter λe=>!seen'.contains e.born).toList=_;rw[Array.toList_filter];simp only[hcont]
     rw[h2];exact this
    have hold:iy β (left.filter λe=>Nat.blt e.born since) (left'.filter (·.born<since)).toList:=by
     have:=hleft.filter (λn=>Nat.blt n since);rw[Array.toList_filter];have h2:(left'.toList.filter λe=>decide (e.born<since))=left'.toList.filter λe=>Nat.blt e.born since:=by
      congr 1;funext e;rw[Fp];simp[vY]
     rw[h2];exact this
    have hnew:iy β (left.filter λe=>Nat.ble since e.born) (left'.filter (·.born>=since)).toList:=by
     have:=hleft.filter (λn=>Nat.ble since n);rw[Array.toList_filter];have h2:(left'.toList.filter λe=>decide (e.born>=since))=left'.toList.filter λe=>Nat.ble since e.born:=by
      congr 1;funext e;rw[Fp];simp[tN]
     rw[h2];exact this
    let old:=left.filter λe=>Nat.blt e.born since
    let new:=left.filter λe=>Nat.ble since e.born
    let old':=left'.filter (·.born<since)
    let new':=left'.filter (·.born>=since)
    let Ak:=(if old'.isEmpty then #[none]else #[])++(old'++new').map some
    have hold':iy β old old'.toList:=hold;have ahS:iy β new new'.toList:=hnew;have hoe:old'.isEmpty=old.isEmpty:=by
     have:=hold'.isEmpty;rw[<- this];cases old' with|mk l=>cases l<;>rfl
    have hpos:0<Ak.size:=by
     show 0<((if old'.isEmpty then #[none]else #[])++(old'++new').map some:Array (ak MapEntry)).size;cases he:old'.isEmpty with
     |true=>simp;omega
     |false=>
      have:0<old'.size:=by
       rcases QU old'.size with h0|h0
       .have:old'= #[]:=Array.eq_empty_of_size_eq_zero h0;rw[this]at he;simp at he
       .exact h0
      simp;omega
    obtain⟨k,w1,k1,k2,k3,k4,k5,k6,k7⟩:=ahQ (P:=P) Ak.size hpos w;have hW1:WR P β h w1:=hW.qg k3;have hE1:Eff β h w β h w1:=Eff.qg hW.dom k3 k4 k5 k6 k7;have hguard:(!seen'.isEmpty&&!es'.isEmpty&&es'.all (·.born>=last))=false:=by
     rw[<- hc];have e1:seen'.isEmpty=seen.isEmpty:=by rw[<- o2];cases seen' with|mk l=>cases l<;>rfl
     have e2:es'.isEmpty=es.isEmpty:=by rw[<- p2.isEmpty];cases es' with|mk l=>cases l<;>rfl
     have e3:es'.all (·.born>=last)=es.all (λe=>Nat.ble last e.born):=by
      rw[<- p2.all (λn=>Nat.ble last n),<- Array.all_toList];congr 1;funext e;rw[Fp];simp[tN]
     rw[e1,e2,e3]
    have hck:Ak[k]? =some Ak[k]:=by simp[k2]
    have hrun:∀(x:ak MapEntry),Ak[k]? =some x->(Instr.next (.pointer (some ⟨g.b,0,none⟩)) false ty).run P w=
     (match x with
     |some e=>do setObj g.b (.mapIter (some gm.b) since (seen'.push e.born) clock);pure (.tuple #[.bool true,e.key,e.val])
     |none=>pure (.tuple #[.bool false]):Sem ah).run P w1:=λx hx=>by
     simp only[Instr.next,dS,Ah o1 tg,Ah p1 tg,eX,hguard,Dn,if_false];have k1':=k1;simp only[Ak,old',new',left']at k1' hx;simp only[dS,fM,eX,k1',hx];cases x<;>rfl
    have hmem:Ak[k]∈Ak.toList:=tg
    cases hx:Ak[k]with
    |none=>
     rw[hx]at hmem hck;have hemp:old.isEmpty=true:=by
      rw[<- hoe];cases he:old'.isEmpty with
      |true=>rfl
      |false=>
       exfalso
       have:none∈((if old'.isEmpty then #[none]else #[])++(old'++new').map some:Array (ak MapEntry)).toList:=hmem;rw[he]at this;simp at this
     refine⟨(.tuple #[.bool false],h),?_,.tuple #[.bool false],w1,by rw[hrun none hck];rfl,.tuple (.cons (.bool _) .nil),hW1,hE1⟩;rw[<- ha];refine uR _ ?_;have:(left.filter λe=>Nat.blt e.born since).isEmpty=true:=hemp;rw[if_pos this];simp
    |some e'=>
     rw[hx]at hmem hck;have ahT:e'∈old'.toList++new'.toList:=by
      have:some e'∈((if old'.isEmpty then #[none]else #[])++(old'++new').map some:Array (ak MapEntry)).toList:=hmem;simp only[Array.toList_append,Array.toList_map,eP,dM,bz,exists_eq_right]at this;rcases this with h1|h1
      .exfalso;split at h1<;>simp at h1
      .simpa using h1
     obtain⟨e,he,q1,q2,q3,q4⟩:=(hold'.append ahS).mem ahT;have hlt:g.b<w1.heap.size:=by
      rw[k3];rcases MS g.b w.heap.size with hh|hh
      .exact hh
      .rw[Array.getElem?_eq_none hh]at o1;cases o1
     have o1':w1.heap[g.b]? =some (.mapIter (some gm.b) since seen' last):=by rw[k3];exact o1
     obtain⟨z1,z2,z3⟩:=IY (w:=w1) (o:=.mapIter (some gm.b) since (seen'.push e'.born) clock) hlt;obtain⟨y1,y2⟩:=hW1.write hb hg (.mapIter (some m) since (seen++[e.born]) clock) z1 z2 rfl rfl rfl (bI _)
      ⟨some gm.b,seen'.push e'.born,z3,by rw[Array.toList_push,o2,q3],o3,o4⟩
     refine⟨(.tuple #[.bool true,e.key,e.val],h.set r (.mapIter (some m) since (seen++[e.born]) clock)),?_,.tuple #[.bool true,e'.key,e'.val],_,?_,?_,y1,hE1.trans y2⟩
     .rw[<- ha];refine xD _ (dM.2 ⟨e,he,rfl⟩)
     .rw[hrun (some e') hck];simp only[dS,RB o1' tg,eX,fM]
     .refine .tuple (.cons (.bool _) (.cons ?_ (.cons q4 .nil)));rw[q1];exact VR.free q2
   .cases ha
  .cases ha
 .cases ha
def ahV{ds:ae Tmp}{a:bB}{K:KO}{s:bW}{l:ae bW}(hw:a.wants s.s.guard=some true)(x:az)(hop:s.s.op=.zZ x)(hre:s.re=[])(alts:ae (ah×IH))(ha:DJ (a.eval x) h=some alts)
 (ih:∀vh∈alts,qA P ds l (a.put s.s.dst vh.1) vh.2 K):qA P ds (s::l) a h K:=by
 intro ops cz hv rest done S hp hds β0 h0 w0 kU kg cs0 β w b tm df k cs ρ hG hdom hcx hI hR hcs hro;cases rest with
 |nil=>cases hp.1
 |cons i rest=>
  have l5:=F6 hp wl;obtain⟨o,S',β',w',tm',ρ',ho,iG,hdst,t1,t0,t2,r4,hstep,nV,hpre,hwant,hG',uY,hrr⟩:=come hp l5 hG hdom hI hR b k cs;rw[hop]at iG;have h1:=ahE iG;have hxv:=uY x (by rw[h1];simp[Op.operands]);obtain⟨vh,hm,r',w2,n1,n2,n3,n4⟩:=ahR ha hxv t2.wr o.type;have hr:(execOp (Act.eval ⟨tm',df⟩) o).run P w'=.ok (.value r') w2:=by
   obtain⟨dst,op,type,pos,after,guard⟩:=o;subst h1;exact Af n1
  have hs:=Nw (b:=b) (k:=k) (cs:=cs) (rest:=ρ') ho (hwant _ hw) (by grind) hr (.inl rfl);have hI2:=t2.sync hstep ho hpre n4 n3 n2 (a2:=a.put s.s.dst vh.1) (λt=>by rw[hdst]) (sG _ _ _) xo
   (by grind)
  exact .of_steps (t1.trans (.one hs)) (ih vh hm ops cz hv rest (i::done) (i::S') nV hds β0 h0 w0 kU kg cs0 β' w2 b _ df k cs ρ' hG hdom hcx hI2 r4 (by rw[xW];exact hcs.mono t0) u9)
