/-
  Kinds, in plain lists: declarations, how names are resolved; how they lie in cells.
-/
import Derived.Test.YtoohgkkmdnbnfaaGreatDoorIdealNF
set_option linter.all false
namespace Kd
open Go Go.Ideal
structure nU where
 name:ByteArray
 value:Int
 deriving DecidableEq
structure lS where
 name:ByteArray
 lists:List (List Int)
 deriving DecidableEq
structure iP where
 name:ByteArray
 on:ByteArray
 family:Int
 type:Int
 lo:Int
 hi:Int
 deriving DecidableEq
structure aS where
 name:ByteArray
 on:ByteArray
 kind:Int
 family:Int
 names:List ByteArray
 others:List ByteArray
 set:Int
 other:Int
 op:Int
 n:Int
 bW:ByteArray
 aG:Int
 deriving DecidableEq
structure bD where
 name:ByteArray
 version:Int
 shape:Int
 w:Int
 h:Int
 holes:List Int
 symbols:List nU
 regions:List lS
 aI:List iP
 rules:List aS
 deriving DecidableEq
structure bq where
 shape:Int
 w:Int
 h:Int
 holes:List Int
 cells:List Int
 deriving DecidableEq
structure bT where
 decl:bD
 grid:bq
 bE:List (List Int)
 lists:List (List (List Int))
 deriving DecidableEq
def fA:Enc nU:=⟨2,Unit,λx _=>[.string x.name,.int .i64 x.value],λ_ _=>[],λ_ _=>rfl⟩
def ed:Enc lS:=⟨2,Value,λx v=>[.string x.name,v],λx v=>[ah (aj aa) v x.lists],λ_ _=>rfl⟩
def bJ:Enc iP:=⟨6,Unit,λx _=>[.string x.name,.string x.on,.int .i64 x.family,.int .i64 x.type,.int .i64 x.lo,.int .i64 x.hi],λ_ _=>[],λ_ _=>rfl⟩
abbrev iM(x:aS)(v1 v2:Value):List Value:=[.string x.name,.string x.on,.int .i64 x.kind,.int .i64 x.family,v1,v2,.int .i64 x.set,.int .i64 x.other,.int .i64 x.op,.int .i64 x.n,.string x.bW,.int .i64 x.aG]
def aY:Enc aS:=⟨12,Value×Value,λx v=>iM x v.1 v.2,λx v=>[ah aR v.1 x.names,ah aR v.2 x.others],λ_ _=>rfl⟩
abbrev gq(d:bD)(vh vs vr vc vu:Value):List Value:=[.string d.name,.int .i64 d.version,.int .i64 d.shape,.int .i64 d.w,.int .i64 d.h,vh,vs,vr,vc,vu]
abbrev kG(d:bD)(vh vs vr vc vu:Value):List aF:=[ah aa vh d.holes,ah fA vs d.symbols,ah ed vr d.regions,ah bJ vc d.aI,ah aY vu d.rules]
def dR(s:ByteArray):List ByteArray->Nat
 |[]=>0
 |a::l=>if s=a then 0 else dR s l+1
theorem xP{s:ByteArray}:∀{l:List ByteArray},s∈l->dR s l<l.length
 |[],h=>by cases h
 |a::l,h=>by
  unfold dR;split
  ·simp
  ·rename_i hne;have:=xP ((dD.1 h).resolve_left hne);simp;omega
def eZ(names:List ByteArray)(start:Nat):List (ByteArray×Value):=names.zipIdx.map λp=>(p.1,.int .i64 ((start+p.2:Nat):Int))
theorem LH(a b:List ByteArray)(start:Nat):eZ (a++b) start=eZ a start++eZ b (start+a.length):=by
 unfold eZ;rw[Co,dY];congr 1;rw[show b.zipIdx (0+a.length)=(b.zipIdx 0).map (λp=>(p.1,p.2+a.length))by
  rw[fw];conv=>lhs;rw[show a.length=0+a.length by omega]
  rw[List.zipIdx_eq_map_add];apply ES;rintro⟨s,i⟩ _;simp only;rw[show 0+a.length+i=i+a.length by omega]]
 rw[uN];apply ES;rintro⟨s,i⟩ _;simp only[Function.comp];rw[show start+(i+a.length)=start+a.length+i by omega]
theorem rF(names:List ByteArray)(start:Nat):(eZ names start).map (·.1)=names:=by
 unfold eZ;rw[uN];have:((λp:ByteArray×Value=>p.1)∘λp:ByteArray×Nat=>(p.1,Value.int .i64 ((start+p.2:Nat):Int)))=Prod.fst:=rfl;rw[this,List.zipIdx_map_fst]
theorem vQ{α β:Type}[DecidableEq α](a b:α)(v:β)(l:List (α×β)):dB a ((b,v)::l)=if a=b then some v else dB a l:=rfl
theorem qp{α β:Type}[DecidableEq α]{a:α}:∀{l:List (α×β)},a∉l.map (·.1)->dB a l=none
 |[],_=>rfl
 |(b,v)::l,h=>by
  unfold dB;rw[if_neg (λe=>h (by rw[e];simp)),qp (λh2=>h (by simp only[gN];exact dI _ h2))]
theorem D8{α β:Type}[DecidableEq α]{a:α}:∀{l:List (α×β)},a∈l.map (·.1)->∃v,dB a l=some v
 |[],h=>by cases h
 |(b,v)::l,h=>by
  unfold dB;by_cases e:a=b
  ·exact⟨v,by rw[if_pos e]⟩
  ·obtain⟨u,hu⟩:=D8 (l:=l) ((dD.1 h).resolve_left e);exact⟨u,by rw[if_neg e,hu]⟩
theorem vR{s:ByteArray}:∀{names:List ByteArray} {start:Nat},s∈names->dB s (eZ names start)=some (.int .i64 ((start+dR s names:Nat):Int))
 |[],start,h=>by cases h
 |a::l,start,h=>by
  have e:eZ (a::l) start=(a,.int .i64 ((start:Nat):Int))::eZ l (start+1):=by
   have:=LH [a] l start;simpa[eZ]using this
  rw[e];unfold dB dR;by_cases hs:s=a
  ·rw[if_pos hs,if_pos hs];rfl
  ·rw[if_neg hs,if_neg hs,vR ((dD.1 h).resolve_left hs),show start+1+dR s l=start+(dR s l+1)by omega]
theorem BA{α β:Type}[DecidableEq α]{a:α}{v:β}:∀{l:List (α×β)},a∉l.map (·.1)->upd a v l=l++[(a,v)]
 |[],_=>rfl
 |(b,u)::l,h=>by
  unfold upd;rw[if_neg (λe=>h (by rw[e];simp)),BA (λh2=>h (by simp only[gN];exact dI _ h2))];rfl
def iF:List ByteArray:=[⟨⟨[99,101,108,108,115]⟩⟩,⟨⟨[114,111,119,115]⟩⟩,⟨⟨[99,111,108,117,109,110,115]⟩⟩,⟨⟨[100,105,97,103,111,110,97,108,115]⟩⟩,⟨⟨[97,114,111,117,110,100]⟩⟩,⟨⟨[110,101,97,114]⟩⟩,⟨⟨[112,97,105,114,115]⟩⟩,⟨⟨[97,108,108]⟩⟩]
def bO(d:bD):List ByteArray:=d.symbols.map (·.name)
def bS(d:bD):List ByteArray:=iF++d.regions.map (·.name)
def dH(d:bD):List ByteArray:=d.aI.map (·.name)
def mF(d:bD):List ByteArray:=d.rules.map (·.name)
def fT(dO l:List ByteArray):Nat:=l.foldl (λm s=>m|||1<<<dR s dO) 0
def kN(pG:List ByteArray)(c:iP):iP:={c with family:=(dR c.on pG:Int)}
def lT(dO pG jk:List ByteArray)(r:aS):aS:=
 {r with family:=if r.on=⟨⟨[]⟩⟩then 0 else(dR r.on pG:Int),aG:=if r.bW=⟨⟨[]⟩⟩then -1 else(dR r.bW jk:Int),set:=(fT dO r.names:Int),other:=(fT dO r.others:Int)}
def bF(d:bD):bD:={d with aI:=d.aI.map (kN (bS d)),rules:=d.rules.map (lT (bO d) (bS d) (dH d))}
structure zz(dO pG jk:List ByteArray)(r:aS):Prop where
 on:r.on=⟨⟨[]⟩⟩\/r.on∈pG
 names:∀s∈r.names,s∈dO
 others:∀s∈r.others,s∈dO
 bW:r.bW=⟨⟨[]⟩⟩\/r.bW∈jk
structure BB(d:bD):Prop where
 dO:d.symbols.length<=16
 RZ:(bO d).Nodup
 R3:(bS d).Nodup
 R4:(dH d).Nodup
 LJ:∀c∈d.aI,c.on∈bS d
 R5:(mF d).Nodup
 uw:∀r∈d.rules,zz (bO d) (bS d) (dH d) r
def jl{α:Type}(f:α->α)(k:Nat)(xs:List α):List α:=(xs.take k).map f++xs.drop k
theorem R6{α:Type}(f:α->α)(xs:List α):jl f xs.length xs=xs.map f:=by simp[jl]
theorem xQ{α:Type}(f:α->α)(k:Nat)(xs:List α):(jl f k xs).length=xs.length:=by simp[jl];omega
theorem R7{α:Type}(f:α->α){k:Nat}{xs:List α}(hk:k<xs.length):(jl f k xs)[k]? =xs[k]?:=by
 unfold jl;rw[qG (by simp;omega),bU,iy,Ag (by omega),Ae,pX,Ab]
theorem R8{α:Type}(f:α->α){k:Nat}{xs:List α}{x:α}(hx:xs[k]? =some x):(jl f k xs).set k (f x)=jl f (k+1) xs:=by
 have hk:=(bN.1 hx).1;unfold jl;rw[List.set_append_right _ _ (by simp;omega),bU,iy,Ag (by omega),Ae];have hd:xs.drop k=x::xs.drop (k+1):=by
  rw[oQ hk];congr 1;rw[cz hk]at hx;exact Option.some.inj hx
 rw[hd,l9,hx,dY];simp
end Kd
namespace Kd
open Go Go.Ideal
structure nG(s w h:Int)(holes:List Int):Prop where
 sh:s=1\/s=2
 wi:1<=w/\w<=16
 he:1<=h/\h<=16
 len:(holes.length:Int)<w*h
 inc:holes.Pairwise (·<·)
 mem:∀x∈holes,0<=x/\x<w*h
def gB(n:Nat)(holes:List Int):List Int:=((List.range n).map λi:Nat=>(i:Int)).filter λi=>!decide (i∈holes)
theorem Ht(n:Nat)(holes:List Int):gB (n+1) holes=gB n holes++if(n:Int)∈holes then[]else[(n:Int)]:=by
 unfold gB;rw[Je,dY,Af];congr 1;by_cases h:(n:Int)∈holes
 ·simp[h]
 ·simp[h]
theorem BC(n:Nat)(holes:List Int):(gB n holes).length<=n:=by
 unfold gB;refine kU (Ah _ _) ?_;simp
theorem R9{n:Nat}{holes:List Int}{x:Int}(h:x∈gB n holes):0<=x/\x<n/\x∉holes:=by
 unfold gB at h;obtain⟨h1,h2⟩:=rU.1 h;obtain⟨i,hi,rfl⟩:=eG.1 h1;have:=tN.1 hi;exact⟨by omega,by omega,by simpa using h2⟩
theorem LK(n:Nat)(holes:List Int):(gB n holes).Pairwise (·<·):=by
 unfold gB;refine List.Pairwise.filter _ ?_;rw[Cq];exact List.Pairwise.imp (λh=>by omega) List.pairwise_lt_range
def lU(w h:Int)(holes:List Int):List Int:=gB (w*h).toNat holes
theorem vS{w h:Int}(hw:1<=w/\w<=16)(hh:1<=h/\h<=16):1<=w*h/\w*h<=256:=by
 have h1:1*1<=w*h:=Int.mul_le_mul hw.1 hh.1 (by omega) (by omega);have h2:w*h<=16*16:=Int.mul_le_mul hw.2 hh.2 (by omega) (by omega);omega
structure eP(g:bq):Prop where
 make:nG g.shape g.w g.h g.holes
 cells:g.cells=lU g.w g.h g.holes
theorem eP.cell{g:bq}(h:eP g):∀x∈g.cells,0<=x/\x<256:=by
 intro x hx;rw[h.cells]at hx;have h1:=R9 hx;have h2:=vS h.make.wi h.make.he;omega
theorem eP.len{g:bq}(h:eP g):g.cells.length<=256:=by
 rw[h.cells];have h1:=BC (g.w*g.h).toNat g.holes;have h2:=vS h.make.wi h.make.he;unfold lU;omega
def mG(g:bq)(pos:Int):Int×Int:=(if g.shape=2 then pos.tmod g.w - (pos.tdiv g.w).tdiv 2 else pos.tmod g.w,pos.tdiv g.w)
def bA(g:bq):List (Int×(Int×Int)):=g.cells.zipIdx.map λp=>((p.2:Int),mG g p.1)
theorem vT{g:bq}{k:Nat}{x:Int}(h:g.cells[k]? =some x):(bA g)[k]? =some ((k:Int),mG g x):=by
 unfold bA;rw[fo,List.getElem?_zipIdx,h];simp
theorem nV(g:bq):(bA g).length=g.cells.length:=by simp[bA]
theorem Sa{a b:List Int}(h:a.Perm b):cK a=cK b:=by
 have h1:(cK a).Perm (cK b):=(wN a _).trans (h.trans (wN b _).symm);have s1:(cK a).Pairwise (λx y=>x<=y):=by
  have:=NP (le:=λx y:Int=>decide (x<=y)) (λa b c h1 h2=>by simp at h1 h2⊢;omega) (λa b=>by simp;omega) a;exact this.imp (λh=>by simpa using h)
 have s2:(cK b).Pairwise (λx y=>x<=y):=by
  have:=NP (le:=λx y:Int=>decide (x<=y)) (λa b c h1 h2=>by simp at h1 h2⊢;omega) (λa b=>by simp;omega) b;exact this.imp (λh=>by simpa using h)
 generalize cK a=u at h1 s1;generalize cK b=v at h1 s2;clear h;induction u generalizing v with
 |nil=>exact(List.nil_perm.1 h1).symm▸rfl
 |cons x u ih=>
  cases v with
  |nil=>exact absurd h1.length_eq (by simp)
  |cons y v=>
   have hxy:x=y:=by
    have hx:x∈y::v:=h1.mem_iff.1 (dL ..);have hy:y∈x::u:=h1.mem_iff.2 (dL ..);rcases dD.1 hx with e|hx
    ·exact e
    rcases dD.1 hy with e|hy
    ·exact e.symm
    have:=(rV.1 s1).1 y hy;have:=(rV.1 s2).1 x hx;omega
   subst hxy;rw[ih (rV.1 s1).2 v ((List.perm_cons x).1 h1) (rV.1 s2).2]
def dW:List (Int×Int):=[(1,0),(-1,0),(0,1),(0, -1),(1, -1),(-1,1)]
def dP(g:bq):Nat:=if g.shape=1 then 4 else 6
def eT(xs:List (Int×(Int×Int))):List ((Int×Int)×Value):=xs.foldl (λm p=>upd p.2 (.int .i64 p.1) m) []
theorem LM(xs:List (Int×(Int×Int)))(p:Int×(Int×Int)):eT (xs++[p])=upd p.2 (.int .i64 p.1) (eT xs):=by
 unfold eT;rw[E5];rfl
theorem Sb{xs:List (Int×(Int×Int))}:∀a v,dB a (eT xs)=some v->∃c,v=.int .i64 c/\∃p∈xs,p.1=c:=by
 have hup:∀(m:List ((Int×Int)×Value)) (b:Int×Int) (u:Value) (a:Int×Int) (v:Value),dB a (upd b u m)=some v->(a=b/\v=u)\/dB a m=some v:=by
  intro m;induction m with
  |nil=>
   intro b u a v h;have h:(if a=b then some u else none)=some v:=h;by_cases e:a=b
   ·rw[if_pos e]at h;exact .inl ⟨e,(Option.some.inj h).symm⟩
   ·rw[if_neg e]at h;cases h
  |cons q m ih=>
   intro b u a v h;obtain⟨k,w⟩:=q;unfold upd at h;by_cases e:b=k
   ·rw[if_pos e,vQ]at h;by_cases e2:a=b
    ·rw[if_pos e2]at h;exact .inl ⟨e2,(Option.some.inj h).symm⟩
    ·rw[if_neg e2]at h;right;rw[vQ,if_neg (λe3=>e2 (e3.trans e.symm))];exact h
   ·rw[if_neg e,vQ]at h;by_cases e2:a=k
    ·rw[if_pos e2]at h;right;rw[vQ,if_pos e2];exact h
    ·rw[if_neg e2]at h;rcases ih b u a v h with h|h
     ·exact .inl h
     ·right;rw[vQ,if_neg e2];exact h
 unfold eT;have:∀(xs:List (Int×(Int×Int))) (m:List ((Int×Int)×Value)) a v,dB a (xs.foldl (λm p=>upd p.2 (.int .i64 p.1) m) m)=some v->(∃c,v=.int .i64 c/\∃p∈xs,p.1=c)\/dB a m=some v:=by
  intro xs;induction xs with
  |nil=>intro m a v h;exact .inr h
  |cons p xs ih=>
   intro m a v h;rw[tC]at h;rcases ih _ a v h with⟨c,h1,q,hq,h2⟩|h
   ·exact .inl ⟨c,h1,q,dI _ hq,h2⟩
   ·rcases hup m p.2 _ a v h with⟨_,h1⟩|h
    ·exact .inl ⟨p.1,h1,p,dL ..,rfl⟩
    ·exact .inr h
 intro a v h;rcases this xs [] a v h with h|h
 ·exact h
 ·cases h
def numOf:Option Value->Option Int
 |some (.int .i64 n)=>some n
 |_=>none
def fU(m:List ((Int×Int)×Value))(s:Int×Int)(ds:List (Int×Int)):List Int:=ds.filterMap λd=>numOf (dB (s.1+d.1,s.2+d.2) m)
theorem abG(m:List ((Int×Int)×Value))(s:Int×Int)(ds:List (Int×Int))(d:Int×Int):fU m s (ds++[d])=fU m s ds++(numOf (dB (s.1+d.1,s.2+d.2) m)).toList:=by
 unfold fU;rw[NQ];congr 1
theorem Hu(m:List ((Int×Int)×Value))(s:Int×Int)(ds:List (Int×Int)):(fU m s ds).length<=ds.length:=Vn _ _
def kP(g:bq)(p:Int×(Int×Int)):List Int:=cK (fU (eT (bA g)) p.2 (dW.take (dP g)))
def bG(g:bq):List (List Int):=(bA g).map (kP g)
theorem Hw{g:bq}(h:eP g):∀p∈bA g,(0<=p.1/\p.1<256)/\(-256<=p.2.1/\p.2.1<256)/\(0<=p.2.2/\p.2.2<256):=by
 intro p hp;obtain⟨k,hk⟩:=tQ.1 hp;have hkl:=(bN.1 hk).1;rw[nV]at hkl;have hx:g.cells[k]? =some g.cells[k]:=cz hkl;rw[vT hx]at hk;cases hk;have hb:=h.cell _ (bI hx);have hl:=h.len;generalize g.cells[k]=x at hb;have hw:=h.make.wi;have hq:0<=x.tdiv g.w/\x.tdiv g.w<=x:=by
  rw[rW hb.1];exact⟨Jf hb.1 (by omega),Int.ediv_le_self _ hb.1⟩
 have hr:0<=x.tmod g.w/\x.tmod g.w<=x:=by
  rw[Cr hb.1];refine⟨Int.emod_nonneg _ (by omega),?_⟩;have:=NR x g.w;have h3:0<=g.w*(x/g.w):=Int.mul_nonneg (by omega) (Jf hb.1 (by omega));omega
 have hq2:0<=(x.tdiv g.w).tdiv 2/\(x.tdiv g.w).tdiv 2<=x.tdiv g.w:=by
  rw[rW hq.1];omega
 unfold mG;dsimp only;refine⟨by omega,?_,by omega⟩;split<;>omega
def LP:Enc (Int×Int):=⟨2,Unit,λx _=>[.int .i64 x.1,.int .i64 x.2],λ_ _=>[],λ_ _=>rfl⟩
abbrev BD:List Value:=[.int .i64 1,.int .i64 0,.int .i64 (-1),.int .i64 0,.int .i64 0,.int .i64 1,.int .i64 0,.int .i64 (-1),.int .i64 1,.int .i64 (-1),.int .i64 (-1),.int .i64 1]
theorem abH{w:Wd}{b m:Nat}(h:(eB b 0 BD).p w)(hm:m<=6):(ah LP (.slice (some ⟨b,0,some 0⟩) m 6) (dW.take m)).p w:=by
 obtain⟨cells,h1,h2⟩:=h;have hl:(dW.take m).length=m:=by rw[iy];show min m 6=m;omega
 refine .inr ⟨b,0,0,6,cells,⟨by rw[hl],by rw[hl];exact hm,.inl rfl⟩,h1,λk x hk=>⟨(),λj u hj=>?_,λf hf=>by cases hf⟩⟩;have hk':dW[k]? =some x:=by
  rw[tL]at hk;split at hk
  ·exact hk
  ·cases hk
 have:=h2 (k*2+j) u (zx (E:=LP) (aJ:=dW.map λd=>(d,())) (k:=k) (p:=(x,())) (by rw[fo,hk'];rfl) hj);show cells[0+k*2+j]? =_;rw[show 0+k*2+j=0+(k*2+j)by omega];exact this
theorem abI:∀d∈dW,(-1<=d.1/\d.1<=1)/\(-1<=d.2/\d.2<=1):=by decide
theorem abJ{j:Nat}{d:Int×Int}(h:dW[j]? =some d):iT (jw BD (j*2)) 2=some [.int .i64 d.1,.int .i64 d.2]:=by
 have hj:j<6:=(bN.1 h).1;match j,hj with
 |0,_=>cases h;rfl
 |1,_=>cases h;rfl
 |2,_=>cases h;rfl
 |3,_=>cases h;rfl
 |4,_=>cases h;rfl
 |5,_=>cases h;rfl
theorem bX{α:Type}{xs:List α}{k:Nat}{x:α}(h:xs[k]? =some x):xs.take (k+1)=xs.take k++[x]:=by
 rw[l9,h];rfl
theorem zA(g:bq):dP g<=6:=by unfold dP;split<;>omega
theorem abK{P:Program}{ρ:Operand->Value}{x hi:Operand}{n size b m:Nat}(hx:ρ x=.pointer (some ⟨b,0,none⟩))(hh:ρ hi=.int .i64 (m:Int))(hm:m<=n):Pu P ρ (.Ji n size x none (some hi) none) (.slice (some ⟨b,0,some 0⟩) m n):=λh=>by
 have hb:bounds? n n none (some (.int .i64 (m:Int))) none=some (0,m,n):=by
  show(match upTo n (.int .i64 (m:Int))with|none=>none|some hh=>_)=_;have:upTo n (.int .i64 (m:Int))=some m:=by
   show cond (Nat.ble m n) (some m) none=_;have:Nat.ble m n=true:=by rw[tH];exact hm
   rw[this];rfl
  rw[this]
 simp only[aC.run,hx,iX,hh,hb];show some (Value.slice (yM b (Nat.add 0 (Nat.mul 0 size))) (Nat.sub m 0) (Nat.sub n 0),h)=_;rw[show Nat.mul 0 size=0 from EX _];rfl
theorem vU{g:bq}{k:Nat}{p:Int×(Int×Int)}(h:(bA g)[k]? =some p):p.1=(k:Int):=by
 have hk:=(bN.1 h).1;rw[nV]at hk;rw[vT (cz hk)]at h;cases h;rfl
theorem Hy{g:bq}{vs rest:List (Int×(Int×Int))}{x:Int×(Int×Int)}(h:vs++x::rest=bA g):x.1=(vs.length:Int)/\vs.length<g.cells.length/\x∈bA g:=by
 have h1:(bA g)[vs.length]? =some x:=by rw[<- h];simp
 refine⟨vU h1,?_,bI h1⟩;have:=(bN.1 h1).1
 rwa [nV]at this
theorem Sc{A:List (List Int)}{n:Nat}(h:A.length<n)(y:List Int):(A++List.replicate (n - A.length) []).set A.length y=(A++[y])++List.replicate (n - (A.length+1)) []:=by
 rw[List.set_append_right _ _ (bP _),Ae,show n - A.length=(n - (A.length+1))+1 by omega,List.replicate_succ,List.set_cons_zero];simp
theorem abL{α:Type}{ws:List α}{k:Nat}{v:α}(h:ws[k]? =some v):ws.set k v=ws:=by
 apply ku;intro i;rw[uM];by_cases e:k=i
 ·subst e;rw[if_pos rfl,if_pos (bN.1 h).1,h]
 ·rw[if_neg e]
theorem vV(g:bq):(bG g).length=g.cells.length:=by
 unfold bG;rw[bU,nV]
theorem abM(g:bq):(bA g).foldl (λ(xss:List (List Int)) (x:Int×(Int×Int))=>xss.set x.1.toNat (kP g x)) (List.replicate g.cells.length [])=bG g:=by
 have key:∀(rest vs:List (Int×(Int×Int))),vs++rest=bA g->rest.foldl (λ(xss:List (List Int)) (x:Int×(Int×Int))=>xss.set x.1.toNat (kP g x)) (vs.map (kP g)++List.replicate (g.cells.length - vs.length) [])=bG g:=by
  intro rest;induction rest with
  |nil=>
   intro vs h;rw[gK]at h;rw[List.foldl_nil,h,nV,Ae,List.replicate_zero,gK];rfl
  |cons x rest ih=>
   intro vs h;have h1:=Hy h;rw[tC,h1.1,Cj];have h2:=Sc (A:=vs.map (kP g)) (n:=g.cells.length) (by rw[bU];exact h1.2.1) (kP g x);rw[bU]at h2;rw[h2];have h3:=ih (vs++[x]) (by rw[fq];exact h);rw[dY,gD]at h3;exact h3
 have:=key (bA g) [] rfl;rw[List.map_nil,bY,I7,Cm]at this;exact this
end Kd
namespace Kd
open Go Go.Ideal
theorem vW{α β:Type}[DecidableEq α](a b:α)(v:β):∀m:List (α×β),dB a (upd b v m)=if a=b then some v else dB a m
 |[]=>rfl
 |(k,w)::m=>by
  unfold upd;by_cases e:b=k
  ·rw[if_pos e,vQ,vQ];by_cases e2:a=b
   ·rw[if_pos e2,if_pos e2]
   ·rw[if_neg e2,if_neg e2,if_neg (λe3=>e2 (e3.trans e.symm))]
  ·rw[if_neg e,vQ,vQ,vW a b v m];by_cases e2:a=k
   ·rw[if_pos e2,if_pos e2,if_neg (λe3=>e (e3.symm.trans e2))]
   ·rw[if_neg e2,if_neg e2]
theorem Sd{α β:Type}[DecidableEq α](b:α)(v:β):∀m:List (α×β),(upd b v m).length<=m.length+1
 |[]=>bP _
 |(k,w)::m=>by
  unfold upd;by_cases e:b=k
  ·rw[if_pos e,oO,oO];omega
  ·rw[if_neg e,oO,oO];have:=Sd b v m;omega
def uy(kf:Int×Int->Int×Bool)(m:List (Int×List Int))(p:Int×(Int×Int)):List (Int×List Int):=
 cond (kf p.2).2 (upd (kf p.2).1 ((dB (kf p.2).1 m).getD []++[p.1]) m) m
def iQ(kf:Int×Int->Int×Bool)(ps:List (Int×(Int×Int))):List (Int×List Int):=ps.foldl (uy kf) []
theorem D9(kf:Int×Int->Int×Bool)(ps:List (Int×(Int×Int)))(p:Int×(Int×Int)):iQ kf (ps++[p])=uy kf (iQ kf ps) p:=by
 unfold iQ;rw[E5];rfl
theorem Hz(kf:Int×Int->Int×Bool)(n:Nat):∀ps:List (Int×(Int×Int)),ps.length=n->(iQ kf ps).length<=ps.length/\∀a,((dB a (iQ kf ps)).getD []).length<=ps.length:=by
 induction n with
 |zero=>
  intro ps h;rw[jI.1 h];exact⟨bP _,λa=>bP _⟩
 |succ n ih=>
  intro ps h;obtain⟨qs,p,rfl⟩:∃qs p,ps=qs++[p]:=⟨ps.dropLast,ps.getLast (by intro e;rw[e]at h;cases h),(Ai _).symm⟩
  have hq:qs.length=n:=by simpa using h
  obtain⟨h1,h2⟩:=ih qs hq;rw[D9,gD,uL];unfold uy;cases (kf p.2).2 with
  |false=>exact⟨by show(iQ kf qs).length<=_;omega,λa=>by have:=h2 a;show((dB a (iQ kf qs)).getD []).length<=_;omega⟩
  |true=>
   refine⟨?_,λa=>?_⟩
   ·have:=Sd (kf p.2).1 ((dB (kf p.2).1 (iQ kf qs)).getD []++[p.1]) (iQ kf qs);show(upd _ _ _).length<=_;omega
   ·show((dB a (upd _ _ _)).getD []).length<=_;rw[vW];by_cases e:a=(kf p.2).1
    ·rw[if_pos e,tK,gD,uL];have:=h2 (kf p.2).1;omega
    ·rw[if_neg e];have:=h2 a;omega
def iG(g:bq)(kf:Int×Int->Int×Bool):List (List Int):=(cK ((iQ kf (bA g)).map (·.1))).map λn=>(dB n (iQ kf (bA g))).getD []
theorem Ea{g:bq}(hg:eP g)(kf:Int×Int->Int×Bool):(iG g kf).length<=256/\∀l∈iG g kf,l.length<=256:=by
 have h:=Hz kf _ (bA g) rfl;have hl:=hg.len;rw[nV]at h;unfold iG;refine⟨?_,λl hl2=>?_⟩
 ·rw[bU];have:(cK ((iQ kf (bA g)).map (·.1))).length=((iQ kf (bA g)).map (·.1)).length:=(wN _ _).length_eq;rw[this,bU];omega
 ·obtain⟨n,_,rfl⟩:=eG.1 hl2;have:=h.2 n;omega
def vX(acc:List (List Int))(l:List Int):List (List Int):=if acc.head? =some l then acc else acc++[l]
def lm(a b:List (List Int)):List (List Int):=b.foldl vX a
theorem Sg{a b:List (List Int)}{k:Nat}{l:List Int}(h:b[k]? =some l):lm a (b.take (k+1))=vX (lm a (b.take k)) l:=by
 unfold lm;rw[bX h,E5];rfl
theorem HV{a b:List (List Int)}{n:Nat}(ha:∀l∈a,l.length<=n)(hb:∀l∈b,l.length<=n):∀k,(lm a (b.take k)).length<=a.length+k/\∀l∈lm a (b.take k),l.length<=n
 |0=>⟨bP _,ha⟩
 |k+1=>by
  obtain⟨h1,h2⟩:=HV ha hb k;cases h:b[k]? with
  |none=>
   have:b.take (k+1)=b.take k:=by rw[l9,h];simp
   rw[this];exact⟨by omega,h2⟩
  |some l=>
   rw[Sg h];unfold vX;split
   ·exact⟨by omega,h2⟩
   ·rw[gD,uL];refine⟨by omega,λx hx=>?_⟩;rcases dX.1 hx with hx|hx
    ·exact h2 x hx
    ·rw[bH.1 hx];exact hb l (bI h)
def kH(g:bq):List (List Int):=
 if g.shape=2 then iG g (λs=>(s.1+s.2,true))
 else if g.w=g.h then lm (iG g (λs=>(0,decide (s.1=s.2)))) (iG g (λs=>(0,decide (s.1+s.2=g.w - 1))))
 else[]
theorem uz{l:List Int}{x:Int}:x∈cK l↔x∈l:=(wN l _).mem_iff
theorem abN:∀a c:Int,Value.int .i64 a=Value.int .i64 c->a=c:=λa c h=>by injection h
def j4(n:Nat):List (List Int):=(List.range n).map λi:Nat=>[(i:Int)]
theorem Si(k:Nat):j4 (k+1)=j4 k++[[(k:Int)]]:=by
 unfold j4;rw[Je,dY];rfl
theorem Sj(k:Nat):(j4 k).length=k:=by unfold j4;simp
def upTo'(n:Nat):List Int:=(List.range n).map λi:Nat=>(i:Int)
theorem uA(k:Nat):upTo' (k+1)=upTo' k++[(k:Int)]:=by
 unfold upTo';rw[Je,dY];rfl
theorem rG(k:Nat):(upTo' k).length=k:=by unfold upTo';simp
def j5(bE:List (List Int)):List (List Int):=bE.zipIdx.map λp=>cK (p.1++[(p.2:Int)])
theorem Sk{bE:List (List Int)}{k:Nat}{l:List Int}(h:bE[k]? =some l):j5 (bE.take (k+1))=j5 (bE.take k)++[cK (l++[(k:Int)])]:=by
 have hk:=(bN.1 h).1;unfold j5;rw[bX h,Co,dY,iy,Ag (by omega)];simp
theorem Sl(bE:List (List Int)):(j5 bE).length=bE.length:=by unfold j5;simp
def jm(i:Nat)(l:List Int):List (List Int):=(l.filter λj=>decide ((i:Int)<j)).map λj=>[(i:Int),j]
theorem Sm{i j:Nat}{l:List Int}{x:Int}(h:l[j]? =some x):jm i (l.take (j+1))=jm i (l.take j)++if(i:Int)<x then[[(i:Int),x]]else[]:=by
 unfold jm;rw[bX h,Af,dY];by_cases e:(i:Int)<x<;>simp[e]
theorem LQ(i:Nat)(l:List Int):(jm i l).length<=l.length:=by
 unfold jm;rw[bU];exact Ah _ _
def gU(bE:List (List Int)):List (List Int):=bE.zipIdx.flatMap λp=>jm p.2 p.1
theorem LU{bE:List (List Int)}{k:Nat}{l:List Int}(h:bE[k]? =some l):gU (bE.take (k+1))=gU (bE.take k)++jm k l:=by
 have hk:=(bN.1 h).1;unfold gU;rw[bX h,Co,List.flatMap_append,iy,Ag (by omega)];simp
theorem Eb{bE:List (List Int)}(hn:∀l∈bE,l.length<=6):∀k,k<=bE.length->(gU (bE.take k)).length<=6*k
 |0,_=>by simp[gU]
 |k+1,hk=>by
  have h:bE[k]? =some bE[k]:=cz (by omega);have:=Eb hn k (by omega);have h2:=LQ k bE[k];have h3:=hn bE[k] (wI _);rw[LU h,gD];omega
theorem Ec{g:bq}:∀l∈bG g,l.length<=6:=by
 intro l hl;obtain⟨p,_,rfl⟩:=eG.1 hl;unfold kP;have h1:(cK (fU (eT (bA g)) p.2 (dW.take (dP g)))).length=(fU (eT (bA g)) p.2 (dW.take (dP g))).length:=(wN _ _).length_eq;have h2:=Hu (eT (bA g)) p.2 (dW.take (dP g));have h3:=zA g;rw[iy]at h2;omega
def dm(g:bq)(k:Int):List (List Int):=
 if k=0 then j4 g.cells.length
 else if k=1 then iG g (λs=>(s.2,true))
 else if k=2 then iG g (λs=>(s.1,true))
 else if k=3 then kH g
 else if k=4 then bG g
 else if k=5 then j5 (bG g)
 else if k=6 then gU (bG g)
 else[upTo' g.cells.length]
end Kd
namespace Kd
open Go Go.Ideal
def vY(p:Int):List Int->Nat
 |[]=>0
 |a::l=>if p=a then 0 else vY p l+1
theorem LV{p:Int}:∀{l:List Int} {n:Nat},l.Pairwise (·<·)->l[n]? =some p->vY p l=n
 |[],n,_,h=>by simp at h
 |a::l,0,_,h=>by
  have h:a=p:=by simpa using h
  unfold vY;rw[if_pos h.symm]
 |a::l,n+1,hp,h=>by
  have h:l[n]? =some p:=by simpa using h
  have h1:=(rV.1 hp).1 p (bI h);unfold vY;rw[if_neg (by omega),LV (rV.1 hp).2 h]
theorem LW{p:Int}:∀{l:List Int},p∈l->vY p l<l.length
 |[],h=>by cases h
 |a::l,h=>by
  unfold vY;by_cases e:p=a
  ·rw[if_pos e,oO];omega
  ·rw[if_neg e,oO];have:=LW (p:=p) (l:=l) ((dD.1 h).resolve_left e);omega
def xR(xs:List Int):List (Int×Value):=xs.foldl (λm c=>upd c (.bool true) m) []
theorem Sn(xs:List Int)(c:Int):xR (xs++[c])=upd c (.bool true) (xR xs):=by
 unfold xR;rw[E5];rfl
theorem abO(c:Int)(n:Nat):∀xs:List Int,xs.length=n->dB c (xR xs)=if c∈xs then some (.bool true)else none:=by
 induction n with
 |zero=>
  intro xs h;rw[jI.1 h];rfl
 |succ n ih=>
  intro xs h;obtain⟨ys,p,rfl⟩:∃ys p,xs=ys++[p]:=⟨xs.dropLast,xs.getLast (by intro e;rw[e]at h;cases h),(Ai _).symm⟩
  rw[Sn,vW,ih ys (by simpa using h)];by_cases e:c=p
  ·subst e;simp
  ·simp[e]
theorem abP(c:Int)(xs:List Int):j3 false (.bool false) c (xR xs)=.bool (decide (c∈xs)):=by
 unfold j3;rw[abO c _ xs rfl];by_cases e:c∈xs
 ·rw[if_pos e,dZ e];rfl
 ·rw[if_neg e,aT e];rfl
theorem abQ:∀(m:Nat) (l:List Int),l.Nodup->(∀x∈l,0<=x/\x<(m:Int))->l.length<=m:=by
 intro m;induction m with
 |zero=>
  intro l _ h;cases l with
  |nil=>exact bP _
  |cons x l=>have:=h x (dL ..);omega
 |succ m ih=>
  intro l hn h;have h1:=ih (l.erase (m:Int)) (hn.erase _) (λx hx=>by
   have:=h x (List.mem_of_mem_erase hx);have hne:x≠(m:Int):=λe=>by subst e;exact(List.Nodup.mem_erase_iff hn).1 hx|>.1 rfl
   omega)
  rw[List.length_erase]at h1;split at h1<;>omega
structure xS(g:bq)(ps:List Int):Prop where
 ne:ps≠[]
 mem:∀p∈ps,p∈g.cells
 nd:(ps.map λp=>(vY p g.cells:Int)).Nodup
structure vZ(g:bq)(rs:List (List Int)):Prop where
 len:rs.length<=64
 all:∀ps∈rs,xS g ps
def eF(g:bq)(ps:List Int):List Int:=ps.map λp=>(vY p g.cells:Int)
def dS(g:bq)(rs:List (List Int)):List (List Int):=rs.map (eF g)
theorem HY{g:bq}{ps:List Int}(hm:∀p∈ps,p∈g.cells)(hn:(eF g ps).Nodup):ps.length<=g.cells.length:=by
 have:=abQ g.cells.length (eF g ps) hn (λx hx=>by
  obtain⟨p,hp,rfl⟩:=eG.1 hx;have:=LW (hm p hp);omega)
 unfold eF at this
 rwa [bU]at this
end Kd
namespace Kd
open Go Go.Ideal
def sP(xs:List Int):List (Int×Value):=(xs.foldl (λs c=>(upd c (.int .i64 ((s.2.count c:Nat)+1)) s.1,s.2++[c])) (([]:List (Int×Value)),([]:List Int))).1
theorem abR(xs:List Int):∀(m:List (Int×Value)) (ys:List Int),(xs.foldl (λs c=>(upd c (.int .i64 ((s.2.count c:Nat)+1)) s.1,s.2++[c])) (m,ys)).2=ys++xs:=by
 induction xs with
 |nil=>intro m ys;simp
 |cons x xs ih=>intro m ys;rw[tC,ih];simp
theorem Sq(xs:List Int)(c:Int):sP (xs++[c])=upd c (.int .i64 ((xs.count c:Nat)+1)) (sP xs):=by
 unfold sP;rw[E5,tC,List.foldl_nil];show upd c _ _=_;rw[abR,bY]
theorem abS(c:Int)(n:Nat):∀xs:List Int,xs.length=n->dB c (sP xs)=if c∈xs then some (.int .i64 (xs.count c:Nat))else none:=by
 induction n with
 |zero=>
  intro xs h;rw[jI.1 h];rfl
 |succ n ih=>
  intro xs h;obtain⟨ys,p,rfl⟩:∃ys p,xs=ys++[p]:=⟨xs.dropLast,xs.getLast (by intro e;rw[e]at h;cases h),(Ai _).symm⟩
  rw[Sq,vW,ih ys (by simpa using h)];by_cases e:c=p
  ·subst e;simp
  ·have e2:¬p=c:=λh=>e h.symm;simp[e,e2,List.count_cons,List.count_append]
theorem Sr(c:Int)(xs:List Int):j3 false (.int .i64 0) c (sP xs)=.int .i64 (xs.count c:Nat):=by
 unfold j3;rw[abS c _ xs rfl];by_cases e:c∈xs
 ·rw[if_pos e];rfl
 ·rw[if_neg e,List.count_eq_zero_of_not_mem e];rfl
theorem Su(c:Int)(xs:List Int):xs.count c<=xs.length:=List.count_le_length ..
def aN(d:bD):bq:=⟨d.shape,d.w,d.h,d.holes,lU d.w d.h d.holes⟩
def kI(d:bD):List (List (List Int)):=((List.range 8).map λf:Nat=>dm (aN d) (f:Int))++d.regions.map λr=>dS (aN d) r.lists
def jV(d:bD):bT:=⟨d,aN d,bG (aN d),kI d⟩
