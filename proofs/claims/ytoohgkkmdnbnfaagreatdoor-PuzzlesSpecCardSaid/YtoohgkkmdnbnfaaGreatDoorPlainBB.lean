/-
  Kinds, in plain lists: declarations, how names are resolved; how they lie in cells.
-/
import Derived.Test.YtoohgkkmdnbnfaaGreatDoorIdealNB
set_option linter.all false
namespace Kd
open Go Go.Ideal
structure nH where
 name:ByteArray
 value:Int
 deriving DecidableEq
structure lc where
 name:ByteArray
 lists:List (List Int)
 deriving DecidableEq
structure iP where
 name:ByteArray
 on:ByteArray
 family:Int
 type:Int
 lo:Int
 hi:Int
 deriving DecidableEq
structure bM where
 name:ByteArray
 on:ByteArray
 kind:Int
 family:Int
 names:List ByteArray
 others:List ByteArray
 set:Int
 other:Int
 op:Int
 n:Int
 dL:ByteArray
 aQ:Int
 deriving DecidableEq
structure bq where
 name:ByteArray
 version:Int
 shape:Int
 w:Int
 h:Int
 holes:List Int
 symbols:List nH
 regions:List lc
 aF:List iP
 rules:List bM
 deriving DecidableEq
structure bz where
 shape:Int
 w:Int
 h:Int
 holes:List Int
 cells:List Int
 deriving DecidableEq
structure eT where
 decl:bq
 grid:bz
 bR:List (List Int)
 lists:List (List (List Int))
 deriving DecidableEq
def fu:Enc nH:=⟨2,Unit,λx _=>[.string x.name,.int .i64 x.value],λ_ _=>[],λ_ _=>rfl⟩
def dW:Enc lc:=⟨2,Value,λx v=>[.string x.name,v],λx v=>[ah (aj ae) v x.lists],λ_ _=>rfl⟩
def bC:Enc iP:=⟨6,Unit,λx _=>[.string x.name,.string x.on,.int .i64 x.family,.int .i64 x.type,.int .i64 x.lo,.int .i64 x.hi],λ_ _=>[],λ_ _=>rfl⟩
abbrev kF(x:bM)(v1 v2:Value):List Value:=[.string x.name,.string x.on,.int .i64 x.kind,.int .i64 x.family,v1,v2,.int .i64 x.set,.int .i64 x.other,.int .i64 x.op,.int .i64 x.n,.string x.dL,.int .i64 x.aQ]
def aW:Enc bM:=⟨12,Value×Value,λx v=>kF x v.1 v.2,λx v=>[ah aN v.1 x.names,ah aN v.2 x.others],λ_ _=>rfl⟩
abbrev fO(d:bq)(vh vs vr vc vu:Value):List Value:=[.string d.name,.int .i64 d.version,.int .i64 d.shape,.int .i64 d.w,.int .i64 d.h,vh,vs,vr,vc,vu]
abbrev j6(d:bq)(vh vs vr vc vu:Value):List aJ:=[ah ae vh d.holes,ah fu vs d.symbols,ah dW vr d.regions,ah bC vc d.aF,ah aW vu d.rules]
def dO(s:ByteArray):List ByteArray->Nat
 |[]=>0
 |a::l=>if s=a then 0 else dO s l+1
theorem yS{s:ByteArray}:∀{l:List ByteArray},s∈l->dO s l<l.length
 |[],h=>by cases h
 |a::l,h=>by
  unfold dO;split
  ·simp
  ·rename_i hne;have:=yS ((dF.1 h).resolve_left hne);simp;omega
def eP(names:List ByteArray)(start:Nat):List (ByteArray×Value):=names.zipIdx.map λp=>(p.1,.int .i64 ((start+p.2:Nat):Int))
theorem Km(a b:List ByteArray)(start:Nat):eP (a++b) start=eP a start++eP b (start+a.length):=by
 unfold eP;rw[MB,eX];congr 1;rw[show b.zipIdx (0+a.length)=(b.zipIdx 0).map (λp=>(p.1,p.2+a.length))by
  rw[eH];conv=>lhs;rw[show a.length=0+a.length by omega]
  rw[List.zipIdx_eq_map_add];apply Ez;rintro⟨s,i⟩ _;simp only;rw[show 0+a.length+i=i+a.length by omega]]
 rw[vW];apply Ez;rintro⟨s,i⟩ _;simp only[Function.comp];rw[show start+(i+a.length)=start+a.length+i by omega]
theorem qZ(names:List ByteArray)(start:Nat):(eP names start).map (·.1)=names:=by
 unfold eP;rw[vW];have:((λp:ByteArray×Value=>p.1)∘λp:ByteArray×Nat=>(p.1,Value.int .i64 ((start+p.2:Nat):Int)))=Prod.fst:=rfl;rw[this,List.zipIdx_map_fst]
theorem uX{α β:Type}[DecidableEq α](a b:α)(v:β)(l:List (α×β)):dN a ((b,v)::l)=if a=b then some v else dN a l:=rfl
theorem qa{α β:Type}[DecidableEq α]{a:α}:∀{l:List (α×β)},a∉l.map (·.1)->dN a l=none
 |[],_=>rfl
 |(b,v)::l,h=>by
  unfold dN;rw[if_neg (λe=>h (by rw[e];simp)),qa (λh2=>h (by simp only[gY];exact dA _ h2))]
theorem DW{α β:Type}[DecidableEq α]{a:α}:∀{l:List (α×β)},a∈l.map (·.1)->∃v,dN a l=some v
 |[],h=>by cases h
 |(b,v)::l,h=>by
  unfold dN;by_cases e:a=b
  ·exact⟨v,by rw[if_pos e]⟩
  ·obtain⟨u,hu⟩:=DW (l:=l) ((dF.1 h).resolve_left e);exact⟨u,by rw[if_neg e,hu]⟩
theorem uY{s:ByteArray}:∀{names:List ByteArray} {start:Nat},s∈names->dN s (eP names start)=some (.int .i64 ((start+dO s names:Nat):Int))
 |[],start,h=>by cases h
 |a::l,start,h=>by
  have e:eP (a::l) start=(a,.int .i64 ((start:Nat):Int))::eP l (start+1):=by
   have:=Km [a] l start;simpa[eP]using this
  rw[e];unfold dN dO;by_cases hs:s=a
  ·rw[if_pos hs,if_pos hs];rfl
  ·rw[if_neg hs,if_neg hs,uY ((dF.1 h).resolve_left hs),show start+1+dO s l=start+(dO s l+1)by omega]
theorem AC{α β:Type}[DecidableEq α]{a:α}{v:β}:∀{l:List (α×β)},a∉l.map (·.1)->upd a v l=l++[(a,v)]
 |[],_=>rfl
 |(b,u)::l,h=>by
  unfold upd;rw[if_neg (λe=>h (by rw[e];simp)),AC (λh2=>h (by simp only[gY];exact dA _ h2))];rfl
def ik:List ByteArray:=[⟨⟨[99,101,108,108,115]⟩⟩,⟨⟨[114,111,119,115]⟩⟩,⟨⟨[99,111,108,117,109,110,115]⟩⟩,⟨⟨[100,105,97,103,111,110,97,108,115]⟩⟩,⟨⟨[97,114,111,117,110,100]⟩⟩,⟨⟨[110,101,97,114]⟩⟩,⟨⟨[112,97,105,114,115]⟩⟩,⟨⟨[97,108,108]⟩⟩]
def bN(d:bq):List ByteArray:=d.symbols.map (·.name)
def bQ(d:bq):List ByteArray:=ik++d.regions.map (·.name)
def dD(d:bq):List ByteArray:=d.aF.map (·.name)
def lU(d:bq):List ByteArray:=d.rules.map (·.name)
def fU(dU l:List ByteArray):Nat:=l.foldl (λm s=>m|||1<<<dO s dU) 0
def kG(rq:List ByteArray)(c:iP):iP:={c with family:=(dO c.on rq:Int)}
def lg(dU rq ja:List ByteArray)(r:bM):bM:=
 {r with family:=if r.on=⟨⟨[]⟩⟩then 0 else(dO r.on rq:Int),aQ:=if r.dL=⟨⟨[]⟩⟩then -1 else(dO r.dL ja:Int),set:=(fU dU r.names:Int),other:=(fU dU r.others:Int)}
def bi(d:bq):bq:={d with aF:=d.aF.map (kG (bQ d)),rules:=d.rules.map (lg (bN d) (bQ d) (dD d))}
structure yT(dU rq ja:List ByteArray)(r:bM):Prop where
 on:r.on=⟨⟨[]⟩⟩\/r.on∈rq
 names:∀s∈r.names,s∈dU
 others:∀s∈r.others,s∈dU
 dL:r.dL=⟨⟨[]⟩⟩\/r.dL∈ja
structure AJ(d:bq):Prop where
 dU:d.symbols.length<=16
 QE:(bN d).Nodup
 QF:(bQ d).Nodup
 QG:(dD d).Nodup
 Kn:∀c∈d.aF,c.on∈bQ d
 QH:(lU d).Nodup
 wT:∀r∈d.rules,yT (bN d) (bQ d) (dD d) r
def jb{α:Type}(f:α->α)(k:Nat)(xs:List α):List α:=(xs.take k).map f++xs.drop k
theorem QI{α:Type}(f:α->α)(xs:List α):jb f xs.length xs=xs.map f:=by simp[jb]
theorem wU{α:Type}(f:α->α)(k:Nat)(xs:List α):(jb f k xs).length=xs.length:=by simp[jb];omega
theorem QJ{α:Type}(f:α->α){k:Nat}{xs:List α}(hk:k<xs.length):(jb f k xs)[k]? =xs[k]?:=by
 unfold jb;rw[mZ (by simp;omega),di,gM,ED (by omega),zw,mY,xG]
theorem QK{α:Type}(f:α->α){k:Nat}{xs:List α}{x:α}(hx:xs[k]? =some x):(jb f k xs).set k (f x)=jb f (k+1) xs:=by
 have hk:=(bT.1 hx).1;unfold jb;rw[List.set_append_right _ _ (by simp;omega),di,gM,ED (by omega),zw];have hd:xs.drop k=x::xs.drop (k+1):=by
  rw[pz hk];congr 1;rw[cK hk]at hx;exact Option.some.inj hx
 rw[hd,lJ,hx,eX];simp
end Kd
namespace Kd
open Go Go.Ideal
structure mU(s w h:Int)(holes:List Int):Prop where
 sh:s=1\/s=2
 wi:1<=w/\w<=16
 he:1<=h/\h<=16
 len:(holes.length:Int)<w*h
 inc:holes.Pairwise (·<·)
 mem:∀x∈holes,0<=x/\x<w*h
def fQ(n:Nat)(holes:List Int):List Int:=((List.range n).map λi:Nat=>(i:Int)).filter λi=>!decide (i∈holes)
theorem Gh(n:Nat)(holes:List Int):fQ (n+1) holes=fQ n holes++if(n:Int)∈holes then[]else[(n:Int)]:=by
 unfold fQ;rw[Hu,eX,EC];congr 1;by_cases h:(n:Int)∈holes
 ·simp[h]
 ·simp[h]
theorem AL(n:Nat)(holes:List Int):(fQ n holes).length<=n:=by
 unfold fQ;refine mX (MC _ _) ?_;simp
theorem QL{n:Nat}{holes:List Int}{x:Int}(h:x∈fQ n holes):0<=x/\x<n/\x∉holes:=by
 unfold fQ at h;obtain⟨h1,h2⟩:=xN.1 h;obtain⟨i,hi,rfl⟩:=je.1 h1;have:=vU.1 hi;exact⟨by omega,by omega,by simpa using h2⟩
theorem Ko(n:Nat)(holes:List Int):(fQ n holes).Pairwise (·<·):=by
 unfold fQ;refine List.Pairwise.filter _ ?_;rw[EE];exact List.Pairwise.imp (λh=>by omega) List.pairwise_lt_range
def lm(w h:Int)(holes:List Int):List Int:=fQ (w*h).toNat holes
theorem uZ{w h:Int}(hw:1<=w/\w<=16)(hh:1<=h/\h<=16):1<=w*h/\w*h<=256:=by
 have h1:1*1<=w*h:=Int.mul_le_mul hw.1 hh.1 (by omega) (by omega);have h2:w*h<=16*16:=Int.mul_le_mul hw.2 hh.2 (by omega) (by omega);omega
structure fV(g:bz):Prop where
 make:mU g.shape g.w g.h g.holes
 cells:g.cells=lm g.w g.h g.holes
theorem fV.cell{g:bz}(h:fV g):∀x∈g.cells,0<=x/\x<256:=by
 intro x hx;rw[h.cells]at hx;have h1:=QL hx;have h2:=uZ h.make.wi h.make.he;omega
theorem fV.len{g:bz}(h:fV g):g.cells.length<=256:=by
 rw[h.cells];have h1:=AL (g.w*g.h).toNat g.holes;have h2:=uZ h.make.wi h.make.he;unfold lm;omega
def lV(g:bz)(pos:Int):Int×Int:=(if g.shape=2 then pos.tmod g.w - (pos.tdiv g.w).tdiv 2 else pos.tmod g.w,pos.tdiv g.w)
def bn(g:bz):List (Int×(Int×Int)):=g.cells.zipIdx.map λp=>((p.2:Int),lV g p.1)
theorem wV{g:bz}{k:Nat}{x:Int}(h:g.cells[k]? =some x):(bn g)[k]? =some ((k:Int),lV g x):=by
 unfold bn;rw[eY,List.getElem?_zipIdx,h];simp
theorem oP(g:bz):(bn g).length=g.cells.length:=by simp[bn]
theorem QM{a b:List Int}(h:a.Perm b):cO a=cO b:=by
 have h1:(cO a).Perm (cO b):=(zy a _).trans (h.trans (zy b _).symm);have s1:(cO a).Pairwise (λx y=>x<=y):=by
  have:=ME (le:=λx y:Int=>decide (x<=y)) (λa b c h1 h2=>by simp at h1 h2⊢;omega) (λa b=>by simp;omega) a;exact this.imp (λh=>by simpa using h)
 have s2:(cO b).Pairwise (λx y=>x<=y):=by
  have:=ME (le:=λx y:Int=>decide (x<=y)) (λa b c h1 h2=>by simp at h1 h2⊢;omega) (λa b=>by simp;omega) b;exact this.imp (λh=>by simpa using h)
 generalize cO a=u at h1 s1;generalize cO b=v at h1 s2;clear h;induction u generalizing v with
 |nil=>exact(List.nil_perm.1 h1).symm▸rfl
 |cons x u ih=>
  cases v with
  |nil=>exact absurd h1.length_eq (by simp)
  |cons y v=>
   have hxy:x=y:=by
    have hx:x∈y::v:=h1.mem_iff.1 (dx ..);have hy:y∈x::u:=h1.mem_iff.2 (dx ..);rcases dF.1 hx with e|hx
    ·exact e
    rcases dF.1 hy with e|hy
    ·exact e.symm
    have:=(rH.1 s1).1 y hy;have:=(rH.1 s2).1 x hx;omega
   subst hxy;rw[ih (rH.1 s1).2 v ((List.perm_cons x).1 h1) (rH.1 s2).2]
def dS:List (Int×Int):=[(1,0),(-1,0),(0,1),(0, -1),(1, -1),(-1,1)]
def dJ(g:bz):Nat:=if g.shape=1 then 4 else 6
def eD(xs:List (Int×(Int×Int))):List ((Int×Int)×Value):=xs.foldl (λm p=>upd p.2 (.int .i64 p.1) m) []
theorem Kq(xs:List (Int×(Int×Int)))(p:Int×(Int×Int)):eD (xs++[p])=upd p.2 (.int .i64 p.1) (eD xs):=by
 unfold eD;rw[EF];rfl
theorem QN{xs:List (Int×(Int×Int))}:∀a v,dN a (eD xs)=some v->∃c,v=.int .i64 c/\∃p∈xs,p.1=c:=by
 have hup:∀(m:List ((Int×Int)×Value)) (b:Int×Int) (u:Value) (a:Int×Int) (v:Value),dN a (upd b u m)=some v->(a=b/\v=u)\/dN a m=some v:=by
  intro m;induction m with
  |nil=>
   intro b u a v h;have h:(if a=b then some u else none)=some v:=h;by_cases e:a=b
   ·rw[if_pos e]at h;exact .inl ⟨e,(Option.some.inj h).symm⟩
   ·rw[if_neg e]at h;cases h
  |cons q m ih=>
   intro b u a v h;obtain⟨k,w⟩:=q;unfold upd at h;by_cases e:b=k
   ·rw[if_pos e,uX]at h;by_cases e2:a=b
    ·rw[if_pos e2]at h;exact .inl ⟨e2,(Option.some.inj h).symm⟩
    ·rw[if_neg e2]at h;right;rw[uX,if_neg (λe3=>e2 (e3.trans e.symm))];exact h
   ·rw[if_neg e,uX]at h;by_cases e2:a=k
    ·rw[if_pos e2]at h;right;rw[uX,if_pos e2];exact h
    ·rw[if_neg e2]at h;rcases ih b u a v h with h|h
     ·exact .inl h
     ·right;rw[uX,if_neg e2];exact h
 unfold eD;have:∀(xs:List (Int×(Int×Int))) (m:List ((Int×Int)×Value)) a v,dN a (xs.foldl (λm p=>upd p.2 (.int .i64 p.1) m) m)=some v->(∃c,v=.int .i64 c/\∃p∈xs,p.1=c)\/dN a m=some v:=by
  intro xs;induction xs with
  |nil=>intro m a v h;exact .inr h
  |cons p xs ih=>
   intro m a v h;rw[uf]at h;rcases ih _ a v h with⟨c,h1,q,hq,h2⟩|h
   ·exact .inl ⟨c,h1,q,dA _ hq,h2⟩
   ·rcases hup m p.2 _ a v h with⟨_,h1⟩|h
    ·exact .inl ⟨p.1,h1,p,dx ..,rfl⟩
    ·exact .inr h
 intro a v h;rcases this xs [] a v h with h|h
 ·exact h
 ·cases h
def numOf:Option Value->Option Int
 |some (.int .i64 n)=>some n
 |_=>none
def fH(m:List ((Int×Int)×Value))(s:Int×Int)(ds:List (Int×Int)):List Int:=ds.filterMap λd=>numOf (dN (s.1+d.1,s.2+d.2) m)
theorem aak(m:List ((Int×Int)×Value))(s:Int×Int)(ds:List (Int×Int))(d:Int×Int):fH m s (ds++[d])=fH m s ds++(numOf (dN (s.1+d.1,s.2+d.2) m)).toList:=by
 unfold fH;rw[List.filterMap_append];congr 1
theorem Gi(m:List ((Int×Int)×Value))(s:Int×Int)(ds:List (Int×Int)):(fH m s ds).length<=ds.length:=List.length_filterMap_le _ _
def kL(g:bz)(p:Int×(Int×Int)):List Int:=cO (fH (eD (bn g)) p.2 (dS.take (dJ g)))
def bD(g:bz):List (List Int):=(bn g).map (kL g)
theorem Gj{g:bz}(h:fV g):∀p∈bn g,(0<=p.1/\p.1<256)/\(-256<=p.2.1/\p.2.1<256)/\(0<=p.2.2/\p.2.2<256):=by
 intro p hp;obtain⟨k,hk⟩:=sQ.1 hp;have hkl:=(bT.1 hk).1;rw[oP]at hkl;have hx:g.cells[k]? =some g.cells[k]:=cK hkl;rw[wV hx]at hk;cases hk;have hb:=h.cell _ (bJ hx);have hl:=h.len;generalize g.cells[k]=x at hb;have hw:=h.make.wi;have hq:0<=x.tdiv g.w/\x.tdiv g.w<=x:=by
  rw[rJ hb.1];exact⟨Hw hb.1 (by omega),Int.ediv_le_self _ hb.1⟩
 have hr:0<=x.tmod g.w/\x.tmod g.w<=x:=by
  rw[Bp hb.1];refine⟨Int.emod_nonneg _ (by omega),?_⟩;have:=MF x g.w;have h3:0<=g.w*(x/g.w):=Int.mul_nonneg (by omega) (Hw hb.1 (by omega));omega
 have hq2:0<=(x.tdiv g.w).tdiv 2/\(x.tdiv g.w).tdiv 2<=x.tdiv g.w:=by
  rw[rJ hq.1];omega
 unfold lV;dsimp only;refine⟨by omega,?_,by omega⟩;split<;>omega
def Kt:Enc (Int×Int):=⟨2,Unit,λx _=>[.int .i64 x.1,.int .i64 x.2],λ_ _=>[],λ_ _=>rfl⟩
abbrev AO:List Value:=[.int .i64 1,.int .i64 0,.int .i64 (-1),.int .i64 0,.int .i64 0,.int .i64 1,.int .i64 0,.int .i64 (-1),.int .i64 1,.int .i64 (-1),.int .i64 (-1),.int .i64 1]
theorem aal{w:Wd}{b m:Nat}(h:(gH b 0 AO).p w)(hm:m<=6):(ah Kt (.slice (some ⟨b,0,some 0⟩) m 6) (dS.take m)).p w:=by
 obtain⟨cells,h1,h2⟩:=h;have hl:(dS.take m).length=m:=by rw[gM];show min m 6=m;omega
 refine .inr ⟨b,0,0,6,cells,⟨by rw[hl],by rw[hl];exact hm,.inl rfl⟩,h1,λk x hk=>⟨(),λj u hj=>?_,λf hf=>by cases hf⟩⟩;have hk':dS[k]? =some x:=by
  rw[qw]at hk;split at hk
  ·exact hk
  ·cases hk
 have:=h2 (k*2+j) u (uW (E:=Kt) (ax:=dS.map λd=>(d,())) (k:=k) (p:=(x,())) (by rw[eY,hk'];rfl) hj);show cells[0+k*2+j]? =_;rw[show 0+k*2+j=0+(k*2+j)by omega];exact this
theorem aam:∀d∈dS,(-1<=d.1/\d.1<=1)/\(-1<=d.2/\d.2<=1):=by decide
theorem aan{j:Nat}{d:Int×Int}(h:dS[j]? =some d):iQ (jm AO (j*2)) 2=some [.int .i64 d.1,.int .i64 d.2]:=by
 have hj:j<6:=(bT.1 h).1;match j,hj with
 |0,_=>cases h;rfl
 |1,_=>cases h;rfl
 |2,_=>cases h;rfl
 |3,_=>cases h;rfl
 |4,_=>cases h;rfl
 |5,_=>cases h;rfl
theorem bV{α:Type}{xs:List α}{k:Nat}{x:α}(h:xs[k]? =some x):xs.take (k+1)=xs.take k++[x]:=by
 rw[lJ,h];rfl
theorem yU(g:bz):dJ g<=6:=by unfold dJ;split<;>omega
theorem aao{P:Program}{ρ:Operand->Value}{x hi:Operand}{n size b m:Nat}(hx:ρ x=.pointer (some ⟨b,0,none⟩))(hh:ρ hi=.int .i64 (m:Int))(hm:m<=n):Pu P ρ (.Hz n size x none (some hi) none) (.slice (some ⟨b,0,some 0⟩) m n):=λh=>by
 have hb:bounds? n n none (some (.int .i64 (m:Int))) none=some (0,m,n):=by
  show(match upTo n (.int .i64 (m:Int))with|none=>none|some hh=>_)=_;have:upTo n (.int .i64 (m:Int))=some m:=by
   show cond (Nat.ble m n) (some m) none=_;have:Nat.ble m n=true:=by rw[ou];exact hm
   rw[this];rfl
  rw[this]
 simp only[aA.run,hx,iG,hh,hb];show some (Value.slice (uw b (Nat.add 0 (Nat.mul 0 size))) (Nat.sub m 0) (Nat.sub n 0),h)=_;rw[show Nat.mul 0 size=0 from vV _];rfl
theorem u7{g:bz}{k:Nat}{p:Int×(Int×Int)}(h:(bn g)[k]? =some p):p.1=(k:Int):=by
 have hk:=(bT.1 h).1;rw[oP]at hk;rw[wV (cK hk)]at h;cases h;rfl
theorem Gl{g:bz}{vs rest:List (Int×(Int×Int))}{x:Int×(Int×Int)}(h:vs++x::rest=bn g):x.1=(vs.length:Int)/\vs.length<g.cells.length/\x∈bn g:=by
 have h1:(bn g)[vs.length]? =some x:=by rw[<- h];simp
 refine⟨u7 h1,?_,bJ h1⟩;have:=(bT.1 h1).1
 rwa [oP]at this
theorem QO{A:List (List Int)}{n:Nat}(h:A.length<n)(y:List Int):(A++List.replicate (n - A.length) []).set A.length y=(A++[y])++List.replicate (n - (A.length+1)) []:=by
 rw[List.set_append_right _ _ (bI _),zw,show n - A.length=(n - (A.length+1))+1 by omega,List.replicate_succ,List.set_cons_zero];simp
theorem aap{α:Type}{ws:List α}{k:Nat}{v:α}(h:ws[k]? =some v):ws.set k v=ws:=by
 apply jw;intro i;rw[ul];by_cases e:k=i
 ·subst e;rw[if_pos rfl,if_pos (bT.1 h).1,h]
 ·rw[if_neg e]
theorem AP(g:bz):(bD g).length=g.cells.length:=by
 unfold bD;rw[di,oP]
theorem aaq(g:bz):(bn g).foldl (λ(xss:List (List Int)) (x:Int×(Int×Int))=>xss.set x.1.toNat (kL g x)) (List.replicate g.cells.length [])=bD g:=by
 have key:∀(rest vs:List (Int×(Int×Int))),vs++rest=bn g->rest.foldl (λ(xss:List (List Int)) (x:Int×(Int×Int))=>xss.set x.1.toNat (kL g x)) (vs.map (kL g)++List.replicate (g.cells.length - vs.length) [])=bD g:=by
  intro rest;induction rest with
  |nil=>
   intro vs h;rw[gD]at h;rw[List.foldl_nil,h,oP,zw,List.replicate_zero,gD];rfl
  |cons x rest ih=>
   intro vs h;have h1:=Gl h;rw[uf,h1.1,Ey];have h2:=QO (A:=vs.map (kL g)) (n:=g.cells.length) (by rw[di];exact h1.2.1) (kL g x);rw[di]at h2;rw[h2];have h3:=ih (vs++[x]) (by rw[fE];exact h);rw[eX,gB]at h3;exact h3
 have:=key (bn g) [] rfl;rw[List.map_nil,dH,Bl,zu]at this;exact this
end Kd
namespace Kd
open Go Go.Ideal
theorem yV{α β:Type}[DecidableEq α](a b:α)(v:β):∀m:List (α×β),dN a (upd b v m)=if a=b then some v else dN a m
 |[]=>rfl
 |(k,w)::m=>by
  unfold upd;by_cases e:b=k
  ·rw[if_pos e,uX,uX];by_cases e2:a=b
   ·rw[if_pos e2,if_pos e2]
   ·rw[if_neg e2,if_neg e2,if_neg (λe3=>e2 (e3.trans e.symm))]
  ·rw[if_neg e,uX,uX,yV a b v m];by_cases e2:a=k
   ·rw[if_pos e2,if_pos e2,if_neg (λe3=>e (e3.symm.trans e2))]
   ·rw[if_neg e2,if_neg e2]
theorem QR{α β:Type}[DecidableEq α](b:α)(v:β):∀m:List (α×β),(upd b v m).length<=m.length+1
 |[]=>bI _
 |(k,w)::m=>by
  unfold upd;by_cases e:b=k
  ·rw[if_pos e,oq,oq];omega
  ·rw[if_neg e,oq,oq];have:=QR b v m;omega
def wW(kf:Int×Int->Int×Bool)(m:List (Int×List Int))(p:Int×(Int×Int)):List (Int×List Int):=
 cond (kf p.2).2 (upd (kf p.2).1 ((dN (kf p.2).1 m).getD []++[p.1]) m) m
def kg(kf:Int×Int->Int×Bool)(ps:List (Int×(Int×Int))):List (Int×List Int):=ps.foldl (wW kf) []
theorem Ku(kf:Int×Int->Int×Bool)(ps:List (Int×(Int×Int)))(p:Int×(Int×Int)):kg kf (ps++[p])=wW kf (kg kf ps) p:=by
 unfold kg;rw[EF];rfl
theorem Kv(kf:Int×Int->Int×Bool)(n:Nat):∀ps:List (Int×(Int×Int)),ps.length=n->(kg kf ps).length<=ps.length/\∀a,((dN a (kg kf ps)).getD []).length<=ps.length:=by
 induction n with
 |zero=>
  intro ps h;rw[jl.1 h];exact⟨bI _,λa=>bI _⟩
 |succ n ih=>
  intro ps h;obtain⟨qs,p,rfl⟩:∃qs p,ps=qs++[p]:=⟨ps.dropLast,ps.getLast (by intro e;rw[e]at h;cases h),(EG _).symm⟩
  have hq:qs.length=n:=by simpa using h
  obtain⟨h1,h2⟩:=ih qs hq;rw[Ku,gB,uk];unfold wW;cases (kf p.2).2 with
  |false=>exact⟨by show(kg kf qs).length<=_;omega,λa=>by have:=h2 a;show((dN a (kg kf qs)).getD []).length<=_;omega⟩
  |true=>
   refine⟨?_,λa=>?_⟩
   ·have:=QR (kf p.2).1 ((dN (kf p.2).1 (kg kf qs)).getD []++[p.1]) (kg kf qs);show(upd _ _ _).length<=_;omega
   ·show((dN a (upd _ _ _)).getD []).length<=_;rw[yV];by_cases e:a=(kf p.2).1
    ·rw[if_pos e,vR,gB,uk];have:=h2 (kf p.2).1;omega
    ·rw[if_neg e];have:=h2 a;omega
def jk(g:bz)(kf:Int×Int->Int×Bool):List (List Int):=(cO ((kg kf (bn g)).map (·.1))).map λn=>(dN n (kg kf (bn g))).getD []
theorem QS{g:bz}(hg:fV g)(kf:Int×Int->Int×Bool):(jk g kf).length<=256/\∀l∈jk g kf,l.length<=256:=by
 have h:=Kv kf _ (bn g) rfl;have hl:=hg.len;rw[oP]at h;unfold jk;refine⟨?_,λl hl2=>?_⟩
 ·rw[di];have:(cO ((kg kf (bn g)).map (·.1))).length=((kg kf (bn g)).map (·.1)).length:=(zy _ _).length_eq;rw[this,di];omega
 ·obtain⟨n,_,rfl⟩:=je.1 hl2;have:=h.2 n;omega
def vo(acc:List (List Int))(l:List Int):List (List Int):=if acc.head? =some l then acc else acc++[l]
def kM(a b:List (List Int)):List (List Int):=b.foldl vo a
theorem QT{a b:List (List Int)}{k:Nat}{l:List Int}(h:b[k]? =some l):kM a (b.take (k+1))=vo (kM a (b.take k)) l:=by
 unfold kM;rw[bV h,EF];rfl
theorem QU{a b:List (List Int)}{n:Nat}(ha:∀l∈a,l.length<=n)(hb:∀l∈b,l.length<=n):∀k,(kM a (b.take k)).length<=a.length+k/\∀l∈kM a (b.take k),l.length<=n
 |0=>⟨bI _,ha⟩
 |k+1=>by
  obtain⟨h1,h2⟩:=QU ha hb k;cases h:b[k]? with
  |none=>
   have:b.take (k+1)=b.take k:=by rw[lJ,h];simp
   rw[this];exact⟨by omega,h2⟩
  |some l=>
   rw[QT h];unfold vo;split
   ·exact⟨by omega,h2⟩
   ·rw[gB,uk];refine⟨by omega,λx hx=>?_⟩;rcases dZ.1 hx with hx|hx
    ·exact h2 x hx
    ·rw[bG.1 hx];exact hb l (bJ h)
def lW(g:bz):List (List Int):=
 if g.shape=2 then jk g (λs=>(s.1+s.2,true))
 else if g.w=g.h then kM (jk g (λs=>(0,decide (s.1=s.2)))) (jk g (λs=>(0,decide (s.1+s.2=g.w - 1))))
 else[]
theorem vw{l:List Int}{x:Int}:x∈cO l↔x∈l:=(zy l _).mem_iff
theorem aar:∀a c:Int,Value.int .i64 a=Value.int .i64 c->a=c:=λa c h=>by injection h
def mo(n:Nat):List (List Int):=(List.range n).map λi:Nat=>[(i:Int)]
theorem QV(k:Nat):mo (k+1)=mo k++[[(k:Int)]]:=by
 unfold mo;rw[Hu,eX];rfl
theorem QW(k:Nat):(mo k).length=k:=by unfold mo;simp
def upTo'(n:Nat):List Int:=(List.range n).map λi:Nat=>(i:Int)
theorem tK(k:Nat):upTo' (k+1)=upTo' k++[(k:Int)]:=by
 unfold upTo';rw[Hu,eX];rfl
theorem sG(k:Nat):(upTo' k).length=k:=by unfold upTo';simp
def lq(bR:List (List Int)):List (List Int):=bR.zipIdx.map λp=>cO (p.1++[(p.2:Int)])
theorem QX{bR:List (List Int)}{k:Nat}{l:List Int}(h:bR[k]? =some l):lq (bR.take (k+1))=lq (bR.take k)++[cO (l++[(k:Int)])]:=by
 have hk:=(bT.1 h).1;unfold lq;rw[bV h,MB,eX,gM,ED (by omega)];simp
theorem QY(bR:List (List Int)):(lq bR).length=bR.length:=by unfold lq;simp
def jv(i:Nat)(l:List Int):List (List Int):=(l.filter λj=>decide ((i:Int)<j)).map λj=>[(i:Int),j]
theorem QZ{i j:Nat}{l:List Int}{x:Int}(h:l[j]? =some x):jv i (l.take (j+1))=jv i (l.take j)++if(i:Int)<x then[[(i:Int),x]]else[]:=by
 unfold jv;rw[bV h,EC,eX];by_cases e:(i:Int)<x<;>simp[e]
theorem Kw(i:Nat)(l:List Int):(jv i l).length<=l.length:=by
 unfold jv;rw[di];exact MC _ _
def iD(bR:List (List Int)):List (List Int):=bR.zipIdx.flatMap λp=>jv p.2 p.1
theorem Ky{bR:List (List Int)}{k:Nat}{l:List Int}(h:bR[k]? =some l):iD (bR.take (k+1))=iD (bR.take k)++jv k l:=by
 have hk:=(bT.1 h).1;unfold iD;rw[bV h,MB,List.flatMap_append,gM,ED (by omega)];simp
theorem Kz{bR:List (List Int)}(hn:∀l∈bR,l.length<=6):∀k,k<=bR.length->(iD (bR.take k)).length<=6*k
 |0,_=>by simp[iD]
 |k+1,hk=>by
  have h:bR[k]? =some bR[k]:=cK (by omega);have:=Kz hn k (by omega);have h2:=Kw k bR[k];have h3:=hn bR[k] (vP _);rw[Ky h,gB];omega
theorem Q0{g:bz}:∀l∈bD g,l.length<=6:=by
 intro l hl;obtain⟨p,_,rfl⟩:=je.1 hl;unfold kL;have h1:(cO (fH (eD (bn g)) p.2 (dS.take (dJ g)))).length=(fH (eD (bn g)) p.2 (dS.take (dJ g))).length:=(zy _ _).length_eq;have h2:=Gi (eD (bn g)) p.2 (dS.take (dJ g));have h3:=yU g;rw[gM]at h2;omega
def dM(g:bz)(k:Int):List (List Int):=
 if k=0 then mo g.cells.length
 else if k=1 then jk g (λs=>(s.2,true))
 else if k=2 then jk g (λs=>(s.1,true))
 else if k=3 then lW g
 else if k=4 then bD g
 else if k=5 then lq (bD g)
 else if k=6 then iD (bD g)
 else[upTo' g.cells.length]
end Kd
namespace Kd
open Go Go.Ideal
def vz(p:Int):List Int->Nat
 |[]=>0
 |a::l=>if p=a then 0 else vz p l+1
theorem KA{p:Int}:∀{l:List Int} {n:Nat},l.Pairwise (·<·)->l[n]? =some p->vz p l=n
 |[],n,_,h=>by simp at h
 |a::l,0,_,h=>by
  have h:a=p:=by simpa using h
  unfold vz;rw[if_pos h.symm]
 |a::l,n+1,hp,h=>by
  have h:l[n]? =some p:=by simpa using h
  have h1:=(rH.1 hp).1 p (bJ h);unfold vz;rw[if_neg (by omega),KA (rH.1 hp).2 h]
theorem Q3{p:Int}:∀{l:List Int},p∈l->vz p l<l.length
 |[],h=>by cases h
 |a::l,h=>by
  unfold vz;by_cases e:p=a
  ·rw[if_pos e,oq];omega
  ·rw[if_neg e,oq];have:=Q3 (p:=p) (l:=l) ((dF.1 h).resolve_left e);omega
def wX(xs:List Int):List (Int×Value):=xs.foldl (λm c=>upd c (.bool true) m) []
theorem Q4(xs:List Int)(c:Int):wX (xs++[c])=upd c (.bool true) (wX xs):=by
 unfold wX;rw[EF];rfl
theorem aas(c:Int)(n:Nat):∀xs:List Int,xs.length=n->dN c (wX xs)=if c∈xs then some (.bool true)else none:=by
 induction n with
 |zero=>
  intro xs h;rw[jl.1 h];rfl
 |succ n ih=>
  intro xs h;obtain⟨ys,p,rfl⟩:∃ys p,xs=ys++[p]:=⟨xs.dropLast,xs.getLast (by intro e;rw[e]at h;cases h),(EG _).symm⟩
  rw[Q4,yV,ih ys (by simpa using h)];by_cases e:c=p
  ·subst e;simp
  ·simp[e]
theorem aat(c:Int)(xs:List Int):jU false (.bool false) c (wX xs)=.bool (decide (c∈xs)):=by
 unfold jU;rw[aas c _ xs rfl];by_cases e:c∈xs
 ·rw[if_pos e,eB e];rfl
 ·rw[if_neg e,aR e];rfl
theorem aau:∀(m:Nat) (l:List Int),l.Nodup->(∀x∈l,0<=x/\x<(m:Int))->l.length<=m:=by
 intro m;induction m with
 |zero=>
  intro l _ h;cases l with
  |nil=>exact bI _
  |cons x l=>have:=h x (dx ..);omega
 |succ m ih=>
  intro l hn h;have h1:=ih (l.erase (m:Int)) (hn.erase _) (λx hx=>by
   have:=h x (List.mem_of_mem_erase hx);have hne:x≠(m:Int):=λe=>by subst e;exact(List.Nodup.mem_erase_iff hn).1 hx|>.1 rfl
   omega)
  rw[List.length_erase]at h1;split at h1<;>omega
structure wY(g:bz)(ps:List Int):Prop where
 ne:ps≠[]
 mem:∀p∈ps,p∈g.cells
 nd:(ps.map λp=>(vz p g.cells:Int)).Nodup
structure KC(g:bz)(rs:List (List Int)):Prop where
 len:rs.length<=64
 all:∀ps∈rs,wY g ps
def eF(g:bz)(ps:List Int):List Int:=ps.map λp=>(vz p g.cells:Int)
def dP(g:bz)(rs:List (List Int)):List (List Int):=rs.map (eF g)
theorem KD{g:bz}{ps:List Int}(hm:∀p∈ps,p∈g.cells)(hn:(eF g ps).Nodup):ps.length<=g.cells.length:=by
 have:=aau g.cells.length (eF g ps) hn (λx hx=>by
  obtain⟨p,hp,rfl⟩:=je.1 hx;have:=Q3 (hm p hp);omega)
 unfold eF at this
 rwa [di]at this
end Kd
namespace Kd
open Go Go.Ideal
def sH(xs:List Int):List (Int×Value):=(xs.foldl (λs c=>(upd c (.int .i64 ((s.2.count c:Nat)+1)) s.1,s.2++[c])) (([]:List (Int×Value)),([]:List Int))).1
theorem aav(xs:List Int):∀(m:List (Int×Value)) (ys:List Int),(xs.foldl (λs c=>(upd c (.int .i64 ((s.2.count c:Nat)+1)) s.1,s.2++[c])) (m,ys)).2=ys++xs:=by
 induction xs with
 |nil=>intro m ys;simp
 |cons x xs ih=>intro m ys;rw[uf,ih];simp
theorem Q5(xs:List Int)(c:Int):sH (xs++[c])=upd c (.int .i64 ((xs.count c:Nat)+1)) (sH xs):=by
 unfold sH;rw[EF,uf,List.foldl_nil];show upd c _ _=_;rw[aav,dH]
theorem aaw(c:Int)(n:Nat):∀xs:List Int,xs.length=n->dN c (sH xs)=if c∈xs then some (.int .i64 (xs.count c:Nat))else none:=by
 induction n with
 |zero=>
  intro xs h;rw[jl.1 h];rfl
 |succ n ih=>
  intro xs h;obtain⟨ys,p,rfl⟩:∃ys p,xs=ys++[p]:=⟨xs.dropLast,xs.getLast (by intro e;rw[e]at h;cases h),(EG _).symm⟩
  rw[Q5,yV,ih ys (by simpa using h)];by_cases e:c=p
  ·subst e;simp
  ·have e2:¬p=c:=λh=>e h.symm;simp[e,e2,List.count_cons,List.count_append]
theorem Q6(c:Int)(xs:List Int):jU false (.int .i64 0) c (sH xs)=.int .i64 (xs.count c:Nat):=by
 unfold jU;rw[aaw c _ xs rfl];by_cases e:c∈xs
 ·rw[if_pos e];rfl
 ·rw[if_neg e,List.count_eq_zero_of_not_mem e];rfl
theorem Q7(c:Int)(xs:List Int):xs.count c<=xs.length:=List.count_le_length ..
def aP(d:bq):bz:=⟨d.shape,d.w,d.h,d.holes,lm d.w d.h d.holes⟩
def nT(d:bq):List (List (List Int)):=((List.range 8).map λf:Nat=>dM (aP d) (f:Int))++d.regions.map λr=>dP (aP d) r.lists
def jL(d:bq):eT:=⟨d,aP d,bD (aP d),nT d⟩
