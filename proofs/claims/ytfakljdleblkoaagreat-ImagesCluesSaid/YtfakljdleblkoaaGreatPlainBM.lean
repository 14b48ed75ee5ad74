/-
  Kinds, in plain lists: declarations, how names are resolved; how they lie in cells.
-/
import Derived.Test.YtfakljdleblkoaaGreatIdealNM
set_option linter.all false
namespace Kd
open Go Go.Ideal
structure lG where
 name:ByteArray
 value:Int
 deriving DecidableEq
structure oN where
 name:ByteArray
 lists:List (List Int)
 deriving DecidableEq
structure iI where
 name:ByteArray
 on:ByteArray
 family:Int
 type:Int
 lo:Int
 hi:Int
 deriving DecidableEq
structure bV where
 name:ByteArray
 on:ByteArray
 kind:Int
 family:Int
 names:List ByteArray
 others:List ByteArray
 set:Int
 other:Int
 op:Int
 n:Int
 iZ:ByteArray
 aN:Int
 deriving DecidableEq
structure dN where
 name:ByteArray
 version:Int
 shape:Int
 w:Int
 h:Int
 holes:List Int
 symbols:List lG
 regions:List oN
 bI:List iI
 rules:List bV
 deriving DecidableEq
structure cO where
 shape:Int
 w:Int
 h:Int
 holes:List Int
 cells:List Int
 deriving DecidableEq
structure aU where
 decl:dN
 grid:cO
 aA:List (List Int)
 lists:List (List (List Int))
 deriving DecidableEq
def jF:Enc lG:=⟨2,Unit,λx _=>[.string x.name,.int .i64 x.value],λ_ _=>[],λ_ _=>rfl⟩
def kW:Enc oN:=⟨2,Value,λx v=>[.string x.name,v],λx v=>[ah (aB ae) v x.lists],λ_ _=>rfl⟩
def dX:Enc iI:=⟨6,Unit,λx _=>[.string x.name,.string x.on,.int .i64 x.family,.int .i64 x.type,.int .i64 x.lo,.int .i64 x.hi],λ_ _=>[],λ_ _=>rfl⟩
abbrev jG(x:bV)(v1 v2:Value):List Value:=[.string x.name,.string x.on,.int .i64 x.kind,.int .i64 x.family,v1,v2,.int .i64 x.set,.int .i64 x.other,.int .i64 x.op,.int .i64 x.n,.string x.iZ,.int .i64 x.aN]
def bT:Enc bV:=⟨12,Value×Value,λx v=>jG x v.1 v.2,λx v=>[ah ji v.1 x.names,ah ji v.2 x.others],λ_ _=>rfl⟩
abbrev mP(d:dN)(vh vs vr vc vu:Value):List Value:=[.string d.name,.int .i64 d.version,.int .i64 d.shape,.int .i64 d.w,.int .i64 d.h,vh,vs,vr,vc,vu]
abbrev ul(d:dN)(vh vs vr vc vu:Value):List aD:=[ah ae vh d.holes,ah jF vs d.symbols,ah kW vr d.regions,ah dX vc d.bI,ah bT vu d.rules]
def jB(s:ByteArray):List ByteArray->Nat
 |[]=>0
 |a::l=>if s=a then 0 else jB s l+1
theorem Bq{s:ByteArray}:∀{l:List ByteArray},s∈l->jB s l<l.length
 |[],h=>by cases h
 |a::l,h=>by
  unfold jB;split
  ·simp
  ·rename_i hne;have:=Bq ((bN.1 h).resolve_left hne);simp;omega
def fD(names:List ByteArray)(start:Nat):List (ByteArray×Value):=names.zipIdx.map λp=>(p.1,.int .i64 ((start+p.2:Nat):Int))
theorem OI(a b:List ByteArray)(start:Nat):fD (a++b) start=fD a start++fD b (start+a.length):=by
 unfold fD;rw[GN,di];congr 1;rw[show b.zipIdx (0+a.length)=(b.zipIdx 0).map (λp=>(p.1,p.2+a.length))by
  rw[fw];conv=>lhs;rw[show a.length=0+a.length by omega]
  rw[List.zipIdx_eq_map_add];apply yQ;rintro⟨s,i⟩ _;simp only;rw[show 0+a.length+i=i+a.length by omega]]
 rw[qE];apply yQ;rintro⟨s,i⟩ _;simp only[Function.comp];rw[show start+(i+a.length)=start+a.length+i by omega]
theorem um(names:List ByteArray)(start:Nat):(fD names start).map (·.1)=names:=by
 unfold fD;rw[qE];have:((λp:ByteArray×Value=>p.1)∘λp:ByteArray×Nat=>(p.1,Value.int .i64 ((start+p.2:Nat):Int)))=Prod.fst:=rfl;rw[this,List.zipIdx_map_fst]
theorem xY{α β:Type}[DecidableEq α](a b:α)(v:β)(l:List (α×β)):dU a ((b,v)::l)=if a=b then some v else dU a l:=rfl
theorem sj{α β:Type}[DecidableEq α]{a:α}:∀{l:List (α×β)},a∉l.map (·.1)->dU a l=none
 |[],_=>rfl
 |(b,v)::l,h=>by
  unfold dU;rw[if_neg (λe=>h (by rw[e];simp)),sj (λh2=>h (by simp only[fI];exact bU _ h2))]
theorem F3{α β:Type}[DecidableEq α]{a:α}:∀{l:List (α×β)},a∈l.map (·.1)->∃v,dU a l=some v
 |[],h=>by cases h
 |(b,v)::l,h=>by
  unfold dU;by_cases e:a=b
  ·exact⟨v,by rw[if_pos e]⟩
  ·obtain⟨u,hu⟩:=F3 (l:=l) ((bN.1 h).resolve_left e);exact⟨u,by rw[if_neg e,hu]⟩
theorem xZ{s:ByteArray}:∀{names:List ByteArray} {start:Nat},s∈names->dU s (fD names start)=some (.int .i64 ((start+jB s names:Nat):Int))
 |[],start,h=>by cases h
 |a::l,start,h=>by
  have e:fD (a::l) start=(a,.int .i64 ((start:Nat):Int))::fD l (start+1):=by
   have:=OI [a] l start;simpa[fD]using this
  rw[e];unfold dU jB;by_cases hs:s=a
  ·rw[if_pos hs,if_pos hs];rfl
  ·rw[if_neg hs,if_neg hs,xZ ((bN.1 h).resolve_left hs),show start+1+jB s l=start+(jB s l+1)by omega]
theorem Dr{α β:Type}[DecidableEq α]{a:α}{v:β}:∀{l:List (α×β)},a∉l.map (·.1)->upd a v l=l++[(a,v)]
 |[],_=>rfl
 |(b,u)::l,h=>by
  unfold upd;rw[if_neg (λe=>h (by rw[e];simp)),Dr (λh2=>h (by simp only[fI];exact bU _ h2))];rfl
def Br:List ByteArray:=[⟨⟨[99,101,108,108,115]⟩⟩,⟨⟨[114,111,119,115]⟩⟩,⟨⟨[99,111,108,117,109,110,115]⟩⟩,⟨⟨[100,105,97,103,111,110,97,108,115]⟩⟩,⟨⟨[97,114,111,117,110,100]⟩⟩,⟨⟨[110,101,97,114]⟩⟩,⟨⟨[112,97,105,114,115]⟩⟩,⟨⟨[97,108,108]⟩⟩]
def gY(d:dN):List ByteArray:=d.symbols.map (·.name)
def gM(d:dN):List ByteArray:=Br++d.regions.map (·.name)
def kX(d:dN):List ByteArray:=d.bI.map (·.name)
def JX(d:dN):List ByteArray:=d.rules.map (·.name)
def jX(eY l:List ByteArray):Nat:=l.foldl (λm s=>m|||1<<<jB s eY) 0
def Dt(fP:List ByteArray)(c:iI):iI:={c with family:=(jB c.on fP:Int)}
def vB(eY fP mE:List ByteArray)(r:bV):bV:=
 {r with family:=if r.on=⟨⟨[]⟩⟩then 0 else(jB r.on fP:Int),aN:=if r.iZ=⟨⟨[]⟩⟩then -1 else(jB r.iZ mE:Int),set:=(jX eY r.names:Int),other:=(jX eY r.others:Int)}
def dV(d:dN):dN:={d with bI:=d.bI.map (Dt (gM d)),rules:=d.rules.map (vB (gY d) (gM d) (kX d))}
structure OJ(eY fP mE:List ByteArray)(r:bV):Prop where
 on:r.on=⟨⟨[]⟩⟩\/r.on∈fP
 names:∀s∈r.names,s∈eY
 others:∀s∈r.others,s∈eY
 iZ:r.iZ=⟨⟨[]⟩⟩\/r.iZ∈mE
structure Du(d:dN):Prop where
 eY:d.symbols.length<=16
 af1:(gY d).Nodup
 af2:(gM d).Nodup
 af3:(kX d).Nodup
 VV:∀c∈d.bI,c.on∈gM d
 af4:(JX d).Nodup
 oO:∀r∈d.rules,OJ (gY d) (gM d) (kX d) r
def jH{α:Type}(f:α->α)(k:Nat)(xs:List α):List α:=(xs.take k).map f++xs.drop k
theorem VW{α:Type}(f:α->α)(xs:List α):jH f xs.length xs=xs.map f:=by simp[jH]
theorem zO{α:Type}(f:α->α)(k:Nat)(xs:List α):(jH f k xs).length=xs.length:=by simp[jH];omega
theorem VX{α:Type}(f:α->α){k:Nat}{xs:List α}(hk:k<xs.length):(jH f k xs)[k]? =xs[k]?:=by
 unfold jH;rw[mU (by simp;omega),bJ,iL,w9 (by omega),vU,oh,Af]
theorem VY{α:Type}(f:α->α){k:Nat}{xs:List α}{x:α}(hx:xs[k]? =some x):(jH f k xs).set k (f x)=jH f (k+1) xs:=by
 have hk:=(aW.1 hx).1;unfold jH;rw[GL _ _ (by simp;omega),bJ,iL,w9 (by omega),vU];have hd:xs.drop k=x::xs.drop (k+1):=by
  rw[nJ hk];congr 1;rw[bC hk]at hx;exact Option.some.inj hx
 rw[hd,pg,hx,di];simp
end Kd
namespace Kd
open Go Go.Ideal
structure su(s w h:Int)(holes:List Int):Prop where
 sh:s=1\/s=2
 wi:1<=w/\w<=16
 he:1<=h/\h<=16
 len:(holes.length:Int)<w*h
 inc:holes.Pairwise (·<·)
 mem:∀x∈holes,0<=x/\x<w*h
def jI(n:Nat)(holes:List Int):List Int:=((List.range n).map λi:Nat=>(i:Int)).filter λi=>!decide (i∈holes)
theorem VZ(n:Nat)(holes:List Int):jI (n+1) holes=jI n holes++if(n:Int)∈holes then[]else[(n:Int)]:=by
 unfold jI;rw[LX,di,Al];congr 1;by_cases h:(n:Int)∈holes
 ·simp[h]
 ·simp[h]
theorem JY(n:Nat)(holes:List Int):(jI n holes).length<=n:=by
 unfold jI;refine qD (Rz _ _) ?_;simp
theorem af5{n:Nat}{holes:List Int}{x:Int}(h:x∈jI n holes):0<=x/\x<n/\x∉holes:=by
 unfold jI at h;obtain⟨h1,h2⟩:=mW.1 h;obtain⟨i,hi,rfl⟩:=cZ.1 h1;have:=o9.1 hi;exact⟨by omega,by omega,by simpa using h2⟩
theorem OL(n:Nat)(holes:List Int):(jI n holes).Pairwise (·<·):=by
 unfold jI;refine List.Pairwise.filter _ ?_;rw[yX];exact List.Pairwise.imp (λh=>by omega) List.pairwise_lt_range
def qU(w h:Int)(holes:List Int):List Int:=jI (w*h).toNat holes
theorem Dv{w h:Int}(hw:1<=w/\w<=16)(hh:1<=h/\h<=16):1<=w*h/\w*h<=256:=by
 have h1:1*1<=w*h:=Int.mul_le_mul hw.1 hh.1 (by omega) (by omega);have h2:w*h<=16*16:=Int.mul_le_mul hw.2 hh.2 (by omega) (by omega);omega
structure ik(g:cO):Prop where
 make:su g.shape g.w g.h g.holes
 cells:g.cells=qU g.w g.h g.holes
theorem ik.cell{g:cO}(h:ik g):∀x∈g.cells,0<=x/\x<256:=by
 intro x hx;rw[h.cells]at hx;have h1:=af5 hx;have h2:=Dv h.make.wi h.make.he;omega
theorem ik.len{g:cO}(h:ik g):g.cells.length<=256:=by
 rw[h.cells];have h1:=JY (g.w*g.h).toNat g.holes;have h2:=Dv h.make.wi h.make.he;unfold qU;omega
def oP(g:cO)(pos:Int):Int×Int:=(if g.shape=2 then pos.tmod g.w - (pos.tdiv g.w).tdiv 2 else pos.tmod g.w,pos.tdiv g.w)
def bA(g:cO):List (Int×(Int×Int)):=g.cells.zipIdx.map λp=>((p.2:Int),oP g p.1)
theorem Bt{g:cO}{k:Nat}{x:Int}(h:g.cells[k]? =some x):(bA g)[k]? =some ((k:Int),oP g x):=by
 unfold bA;rw[dR,List.getElem?_zipIdx,h];simp
theorem qV(g:cO):(bA g).length=g.cells.length:=by simp[bA]
theorem af6{a b:List Int}(h:a.Perm b):bD a=bD b:=by
 have h1:(bD a).Perm (bD b):=(Ap a _).trans (h.trans (Ap b _).symm);have s1:(bD a).Pairwise (λx y=>x<=y):=by
  have:=ZB (le:=λx y:Int=>decide (x<=y)) (λa b c h1 h2=>by simp at h1 h2⊢;omega) (λa b=>by simp;omega) a;exact this.imp (λh=>by simpa using h)
 have s2:(bD b).Pairwise (λx y=>x<=y):=by
  have:=ZB (le:=λx y:Int=>decide (x<=y)) (λa b c h1 h2=>by simp at h1 h2⊢;omega) (λa b=>by simp;omega) b;exact this.imp (λh=>by simpa using h)
 generalize bD a=u at h1 s1;generalize bD b=v at h1 s2;clear h;induction u generalizing v with
 |nil=>exact(List.nil_perm.1 h1).symm▸rfl
 |cons x u ih=>
  cases v with
  |nil=>exact absurd h1.length_eq (by simp)
  |cons y v=>
   have hxy:x=y:=by
    have hx:x∈y::v:=h1.mem_iff.1 (bR ..);have hy:y∈x::u:=h1.mem_iff.2 (bR ..);rcases bN.1 hx with e|hx
    ·exact e
    rcases bN.1 hy with e|hy
    ·exact e.symm
    have:=(nL.1 s1).1 y hy;have:=(nL.1 s2).1 x hx;omega
   subst hxy;rw[ih (nL.1 s1).2 v ((List.perm_cons x).1 h1) (nL.1 s2).2]
def eT:List (Int×Int):=[(1,0),(-1,0),(0,1),(0, -1),(1, -1),(-1,1)]
def dY(g:cO):Nat:=if g.shape=1 then 4 else 6
def fq(xs:List (Int×(Int×Int))):List ((Int×Int)×Value):=xs.foldl (λm p=>upd p.2 (.int .i64 p.1) m) []
theorem OM(xs:List (Int×(Int×Int)))(p:Int×(Int×Int)):fq (xs++[p])=upd p.2 (.int .i64 p.1) (fq xs):=by
 unfold fq;rw[Aq];rfl
theorem V3{xs:List (Int×(Int×Int))}:∀a v,dU a (fq xs)=some v->∃c,v=.int .i64 c/\∃p∈xs,p.1=c:=by
 have hup:∀(m:List ((Int×Int)×Value)) (b:Int×Int) (u:Value) (a:Int×Int) (v:Value),dU a (upd b u m)=some v->(a=b/\v=u)\/dU a m=some v:=by
  intro m;induction m with
  |nil=>
   intro b u a v h;have h:(if a=b then some u else none)=some v:=h;by_cases e:a=b
   ·rw[if_pos e]at h;exact .inl ⟨e,(Option.some.inj h).symm⟩
   ·rw[if_neg e]at h;cases h
  |cons q m ih=>
   intro b u a v h;obtain⟨k,w⟩:=q;unfold upd at h;by_cases e:b=k
   ·rw[if_pos e,xY]at h;by_cases e2:a=b
    ·rw[if_pos e2]at h;exact .inl ⟨e2,(Option.some.inj h).symm⟩
    ·rw[if_neg e2]at h;right;rw[xY,if_neg (λe3=>e2 (e3.trans e.symm))];exact h
   ·rw[if_neg e,xY]at h;by_cases e2:a=k
    ·rw[if_pos e2]at h;right;rw[xY,if_pos e2];exact h
    ·rw[if_neg e2]at h;rcases ih b u a v h with h|h
     ·exact .inl h
     ·right;rw[xY,if_neg e2];exact h
 unfold fq;have:∀(xs:List (Int×(Int×Int))) (m:List ((Int×Int)×Value)) a v,dU a (xs.foldl (λm p=>upd p.2 (.int .i64 p.1) m) m)=some v->(∃c,v=.int .i64 c/\∃p∈xs,p.1=c)\/dU a m=some v:=by
  intro xs;induction xs with
  |nil=>intro m a v h;exact .inr h
  |cons p xs ih=>
   intro m a v h;rw[sN]at h;rcases ih _ a v h with⟨c,h1,q,hq,h2⟩|h
   ·exact .inl ⟨c,h1,q,bU _ hq,h2⟩
   ·rcases hup m p.2 _ a v h with⟨_,h1⟩|h
    ·exact .inl ⟨p.1,h1,p,bR ..,rfl⟩
    ·exact .inr h
 intro a v h;rcases this xs [] a v h with h|h
 ·exact h
 ·cases h
def numOf:Option Value->Option Int
 |some (.int .i64 n)=>some n
 |_=>none
def gq(m:List ((Int×Int)×Value))(s:Int×Int)(ds:List (Int×Int)):List Int:=ds.filterMap λd=>numOf (dU (s.1+d.1,s.2+d.2) m)
theorem af7(m:List ((Int×Int)×Value))(s:Int×Int)(ds:List (Int×Int))(d:Int×Int):gq m s (ds++[d])=gq m s ds++(numOf (dU (s.1+d.1,s.2+d.2) m)).toList:=by
 unfold gq;rw[List.filterMap_append];congr 1
theorem JZ(m:List ((Int×Int)×Value))(s:Int×Int)(ds:List (Int×Int)):(gq m s ds).length<=ds.length:=ZC _ _
def mF(g:cO)(p:Int×(Int×Int)):List Int:=bD (gq (fq (bA g)) p.2 (eT.take (dY g)))
def fH(g:cO):List (List Int):=(bA g).map (mF g)
theorem J2{g:cO}(h:ik g):∀p∈bA g,(0<=p.1/\p.1<256)/\(-256<=p.2.1/\p.2.1<256)/\(0<=p.2.2/\p.2.2<256):=by
 intro p hp;obtain⟨k,hk⟩:=wZ.1 hp;have hkl:=(aW.1 hk).1;rw[qV]at hkl;have hx:g.cells[k]? =some g.cells[k]:=bC hkl;rw[Bt hx]at hk;cases hk;have hb:=h.cell _ (aR hx);have hl:=h.len;generalize g.cells[k]=x at hb;have hw:=h.make.wi;have hq:0<=x.tdiv g.w/\x.tdiv g.w<=x:=by
  rw[Cf hb.1];exact⟨Int.ediv_nonneg hb.1 (by omega),Int.ediv_le_self _ hb.1⟩
 have hr:0<=x.tmod g.w/\x.tmod g.w<=x:=by
  rw[RA hb.1];refine⟨Int.emod_nonneg _ (by omega),?_⟩;have:=RB x g.w;have h3:0<=g.w*(x/g.w):=Int.mul_nonneg (by omega) (Int.ediv_nonneg hb.1 (by omega));omega
 have hq2:0<=(x.tdiv g.w).tdiv 2/\(x.tdiv g.w).tdiv 2<=x.tdiv g.w:=by
  rw[Cf hq.1];omega
 unfold oP;dsimp only;refine⟨by omega,?_,by omega⟩;split<;>omega
def OO:Enc (Int×Int):=⟨2,Unit,λx _=>[.int .i64 x.1,.int .i64 x.2],λ_ _=>[],λ_ _=>rfl⟩
abbrev Dw:List Value:=[.int .i64 1,.int .i64 0,.int .i64 (-1),.int .i64 0,.int .i64 0,.int .i64 1,.int .i64 0,.int .i64 (-1),.int .i64 1,.int .i64 (-1),.int .i64 (-1),.int .i64 1]
theorem af8{w:Wd}{b m:Nat}(h:(bz b 0 Dw).p w)(hm:m<=6):(ah OO (.slice (some ⟨b,0,some 0⟩) m 6) (eT.take m)).p w:=by
 obtain⟨cells,h1,h2⟩:=h;have hl:(eT.take m).length=m:=by rw[iL];show min m 6=m;omega
 refine .inr ⟨b,0,0,6,cells,⟨by rw[hl],by rw[hl];exact hm,.inl rfl⟩,h1,λk x hk=>⟨(),λj u hj=>?_,λf hf=>by cases hf⟩⟩;have hk':eT[k]? =some x:=by
  rw[uF]at hk;split at hk
  ·exact hk
  ·cases hk
 have:=h2 (k*2+j) u (wF (E:=OO) (ay:=eT.map λd=>(d,())) (k:=k) (p:=(x,())) (by rw[dR,hk'];rfl) hj);show cells[0+k*2+j]? =_;rw[show 0+k*2+j=0+(k*2+j)by omega];exact this
theorem af9:∀d∈eT,(-1<=d.1/\d.1<=1)/\(-1<=d.2/\d.2<=1):=by decide
theorem aga{j:Nat}{d:Int×Int}(h:eT[j]? =some d):jh (jK Dw (j*2)) 2=some [.int .i64 d.1,.int .i64 d.2]:=by
 have hj:j<6:=(aW.1 h).1;match j,hj with
 |0,_=>cases h;rfl
 |1,_=>cases h;rfl
 |2,_=>cases h;rfl
 |3,_=>cases h;rfl
 |4,_=>cases h;rfl
 |5,_=>cases h;rfl
theorem gZ{α:Type}{xs:List α}{k:Nat}{x:α}(h:xs[k]? =some x):xs.take (k+1)=xs.take k++[x]:=by
 rw[pg,h];rfl
theorem Bu(g:cO):dY g<=6:=by unfold dY;split<;>omega
theorem agb{P:Program}{ρ:Operand->Value}{x hi:Operand}{n size b m:Nat}(hx:ρ x=.pointer (some ⟨b,0,none⟩))(hh:ρ hi=.int .i64 (m:Int))(hm:m<=n):Pu P ρ (.L6 n size x none (some hi) none) (.slice (some ⟨b,0,some 0⟩) m n):=λh=>by
 have hb:bounds? n n none (some (.int .i64 (m:Int))) none=some (0,m,n):=by
  show(match upTo n (.int .i64 (m:Int))with|none=>none|some hh=>_)=_;have:upTo n (.int .i64 (m:Int))=some m:=by
   show cond (Nat.ble m n) (some m) none=_;have:Nat.ble m n=true:=by rw[sP];exact hm
   rw[this];rfl
  rw[this]
 simp only[aF.run,hx,iH,hh,hb];show some (Value.slice (xk b (Nat.add 0 (Nat.mul 0 size))) (Nat.sub m 0) (Nat.sub n 0),h)=_;rw[show Nat.mul 0 size=0 from Ep _];rfl
theorem x8{g:cO}{k:Nat}{p:Int×(Int×Int)}(h:(bA g)[k]? =some p):p.1=(k:Int):=by
 have hk:=(aW.1 h).1;rw[qV]at hk;rw[Bt (bC hk)]at h;cases h;rfl
theorem J3{g:cO}{vs rest:List (Int×(Int×Int))}{x:Int×(Int×Int)}(h:vs++x::rest=bA g):x.1=(vs.length:Int)/\vs.length<g.cells.length/\x∈bA g:=by
 have h1:(bA g)[vs.length]? =some x:=by rw[<- h];simp
 refine⟨x8 h1,?_,aR h1⟩;have:=(aW.1 h1).1
 rwa [qV]at this
theorem V4{A:List (List Int)}{n:Nat}(h:A.length<n)(y:List Int):(A++List.replicate (n - A.length) []).set A.length y=(A++[y])++List.replicate (n - (A.length+1)) []:=by
 rw[GL _ _ (bB _),vU,show n - A.length=(n - (A.length+1))+1 by omega,Eo,List.set_cons_zero];simp
theorem agc{α:Type}{ws:List α}{k:Nat}{v:α}(h:ws[k]? =some v):ws.set k v=ws:=by
 apply iF;intro i;rw[mV];by_cases e:k=i
 ·subst e;rw[if_pos rfl,if_pos (aW.1 h).1,h]
 ·rw[if_neg e]
theorem wH(g:cO):(fH g).length=g.cells.length:=by
 unfold fH;rw[bJ,qV]
theorem agd(g:cO):(bA g).foldl (λ(xss:List (List Int)) (x:Int×(Int×Int))=>xss.set x.1.toNat (mF g x)) (List.replicate g.cells.length [])=fH g:=by
 have key:∀(rest vs:List (Int×(Int×Int))),vs++rest=bA g->rest.foldl (λ(xss:List (List Int)) (x:Int×(Int×Int))=>xss.set x.1.toNat (mF g x)) (vs.map (mF g)++List.replicate (g.cells.length - vs.length) [])=fH g:=by
  intro rest;induction rest with
  |nil=>
   intro vs h;rw[iK]at h;rw[List.foldl_nil,h,qV,vU,List.replicate_zero,iK];rfl
  |cons x rest ih=>
   intro vs h;have h1:=J3 h;rw[sN,h1.1,eX];have h2:=V4 (A:=vs.map (mF g)) (n:=g.cells.length) (by rw[bJ];exact h1.2.1) (mF g x);rw[bJ]at h2;rw[h2];have h3:=ih (vs++[x]) (by rw[ed];exact h);rw[di,gP]at h3;exact h3
 have:=key (bA g) [] rfl;rw[List.map_nil,bH,Aj,Ak]at this;exact this
end Kd
namespace Kd
open Go Go.Ideal
theorem zP{α β:Type}[DecidableEq α](a b:α)(v:β):∀m:List (α×β),dU a (upd b v m)=if a=b then some v else dU a m
 |[]=>rfl
 |(k,w)::m=>by
  unfold upd;by_cases e:b=k
  ·rw[if_pos e,xY,xY];by_cases e2:a=b
   ·rw[if_pos e2,if_pos e2]
   ·rw[if_neg e2,if_neg e2,if_neg (λe3=>e2 (e3.trans e.symm))]
  ·rw[if_neg e,xY,xY,zP a b v m];by_cases e2:a=k
   ·rw[if_pos e2,if_pos e2,if_neg (λe3=>e (e3.symm.trans e2))]
   ·rw[if_neg e2,if_neg e2]
theorem V5{α β:Type}[DecidableEq α](b:α)(v:β):∀m:List (α×β),(upd b v m).length<=m.length+1
 |[]=>bB _
 |(k,w)::m=>by
  unfold upd;by_cases e:b=k
  ·rw[if_pos e,lN,lN];omega
  ·rw[if_neg e,lN,lN];have:=V5 b v m;omega
def x9(kf:Int×Int->Int×Bool)(m:List (Int×List Int))(p:Int×(Int×Int)):List (Int×List Int):=
 cond (kf p.2).2 (upd (kf p.2).1 ((dU (kf p.2).1 m).getD []++[p.1]) m) m
def jY(kf:Int×Int->Int×Bool)(ps:List (Int×(Int×Int))):List (Int×List Int):=ps.foldl (x9 kf) []
theorem J4(kf:Int×Int->Int×Bool)(ps:List (Int×(Int×Int)))(p:Int×(Int×Int)):jY kf (ps++[p])=x9 kf (jY kf ps) p:=by
 unfold jY;rw[Aq];rfl
theorem OP(kf:Int×Int->Int×Bool)(n:Nat):∀ps:List (Int×(Int×Int)),ps.length=n->(jY kf ps).length<=ps.length/\∀a,((dU a (jY kf ps)).getD []).length<=ps.length:=by
 induction n with
 |zero=>
  intro ps h;rw[lQ.1 h];exact⟨bB _,λa=>bB _⟩
 |succ n ih=>
  intro ps h;obtain⟨qs,p,rfl⟩:∃qs p,ps=qs++[p]:=⟨ps.dropLast,ps.getLast (by intro e;rw[e]at h;cases h),(Et _).symm⟩
  have hq:qs.length=n:=by simpa using h
  obtain⟨h1,h2⟩:=ih qs hq;rw[J4,gP,yT];unfold x9;cases (kf p.2).2 with
  |false=>exact⟨by show(jY kf qs).length<=_;omega,λa=>by have:=h2 a;show((dU a (jY kf qs)).getD []).length<=_;omega⟩
  |true=>
   refine⟨?_,λa=>?_⟩
   ·have:=V5 (kf p.2).1 ((dU (kf p.2).1 (jY kf qs)).getD []++[p.1]) (jY kf qs);show(upd _ _ _).length<=_;omega
   ·show((dU a (upd _ _ _)).getD []).length<=_;rw[zP];by_cases e:a=(kf p.2).1
    ·rw[if_pos e,wX,gP,yT];have:=h2 (kf p.2).1;omega
    ·rw[if_neg e];have:=h2 a;omega
def ku(g:cO)(kf:Int×Int->Int×Bool):List (List Int):=(bD ((jY kf (bA g)).map (·.1))).map λn=>(dU n (jY kf (bA g))).getD []
theorem J5{g:cO}(hg:ik g)(kf:Int×Int->Int×Bool):(ku g kf).length<=256/\∀l∈ku g kf,l.length<=256:=by
 have h:=OP kf _ (bA g) rfl;have hl:=hg.len;rw[qV]at h;unfold ku;refine⟨?_,λl hl2=>?_⟩
 ·rw[bJ];have:(bD ((jY kf (bA g)).map (·.1))).length=((jY kf (bA g)).map (·.1)).length:=(Ap _ _).length_eq;rw[this,bJ];omega
 ·obtain⟨n,_,rfl⟩:=cZ.1 hl2;have:=h.2 n;omega
def yf(acc:List (List Int))(l:List Int):List (List Int):=if acc.head? =some l then acc else acc++[l]
def mG(a b:List (List Int)):List (List Int):=b.foldl yf a
theorem V6{a b:List (List Int)}{k:Nat}{l:List Int}(h:b[k]? =some l):mG a (b.take (k+1))=yf (mG a (b.take k)) l:=by
 unfold mG;rw[gZ h,Aq];rfl
theorem OQ{a b:List (List Int)}{n:Nat}(ha:∀l∈a,l.length<=n)(hb:∀l∈b,l.length<=n):∀k,(mG a (b.take k)).length<=a.length+k/\∀l∈mG a (b.take k),l.length<=n
 |0=>⟨bB _,ha⟩
 |k+1=>by
  obtain⟨h1,h2⟩:=OQ ha hb k;cases h:b[k]? with
  |none=>
   have:b.take (k+1)=b.take k:=by rw[pg,h];simp
   rw[this];exact⟨by omega,h2⟩
  |some l=>
   rw[V6 h];unfold yf;split
   ·exact⟨by omega,h2⟩
   ·rw[gP,yT];refine⟨by omega,λx hx=>?_⟩;rcases gH.1 hx with hx|hx
    ·exact h2 x hx
    ·rw[bO.1 hx];exact hb l (aR h)
def uo(g:cO):List (List Int):=
 if g.shape=2 then ku g (λs=>(s.1+s.2,true))
 else if g.w=g.h then mG (ku g (λs=>(0,decide (s.1=s.2)))) (ku g (λs=>(0,decide (s.1+s.2=g.w - 1))))
 else[]
theorem Dx{l:List Int}{x:Int}:x∈bD l↔x∈l:=(Ap l _).mem_iff
theorem age:∀a c:Int,Value.int .i64 a=Value.int .i64 c->a=c:=λa c h=>by injection h
def lH(n:Nat):List (List Int):=(List.range n).map λi:Nat=>[(i:Int)]
theorem agf(k:Nat):lH (k+1)=lH k++[[(k:Int)]]:=by
 unfold lH;rw[LX,di];rfl
theorem OT(k:Nat):(lH k).length=k:=by unfold lH;simp
def upTo'(n:Nat):List Int:=(List.range n).map λi:Nat=>(i:Int)
theorem OU(k:Nat):upTo' (k+1)=upTo' k++[(k:Int)]:=by
 unfold upTo';rw[LX,di];rfl
theorem wI(k:Nat):(upTo' k).length=k:=by unfold upTo';simp
def pJ(aA:List (List Int)):List (List Int):=aA.zipIdx.map λp=>bD (p.1++[(p.2:Int)])
theorem agh{aA:List (List Int)}{k:Nat}{l:List Int}(h:aA[k]? =some l):pJ (aA.take (k+1))=pJ (aA.take k)++[bD (l++[(k:Int)])]:=by
 have hk:=(aW.1 h).1;unfold pJ;rw[gZ h,GN,di,iL,w9 (by omega)];simp
theorem V7(aA:List (List Int)):(pJ aA).length=aA.length:=by unfold pJ;simp
def mH(i:Nat)(l:List Int):List (List Int):=(l.filter λj=>decide ((i:Int)<j)).map λj=>[(i:Int),j]
theorem agi{i j:Nat}{l:List Int}{x:Int}(h:l[j]? =some x):mH i (l.take (j+1))=mH i (l.take j)++if(i:Int)<x then[[(i:Int),x]]else[]:=by
 unfold mH;rw[gZ h,Al,di];by_cases e:(i:Int)<x<;>simp[e]
theorem V8(i:Nat)(l:List Int):(mH i l).length<=l.length:=by
 unfold mH;rw[bJ];exact Rz _ _
def kF(aA:List (List Int)):List (List Int):=aA.zipIdx.flatMap λp=>mH p.2 p.1
theorem V9{aA:List (List Int)}{k:Nat}{l:List Int}(h:aA[k]? =some l):kF (aA.take (k+1))=kF (aA.take k)++mH k l:=by
 have hk:=(aW.1 h).1;unfold kF;rw[gZ h,GN,List.flatMap_append,iL,w9 (by omega)];simp
theorem OV{aA:List (List Int)}(hn:∀l∈aA,l.length<=6):∀k,k<=aA.length->(kF (aA.take k)).length<=6*k
 |0,_=>by simp[kF]
 |k+1,hk=>by
  have h:aA[k]? =some aA[k]:=bC (by omega);have:=OV hn k (by omega);have h2:=V8 k aA[k];have h3:=hn aA[k] (uC _);rw[V9 h,gP];omega
theorem J6{g:cO}:∀l∈fH g,l.length<=6:=by
 intro l hl;obtain⟨p,_,rfl⟩:=cZ.1 hl;unfold mF;have h1:(bD (gq (fq (bA g)) p.2 (eT.take (dY g)))).length=(gq (fq (bA g)) p.2 (eT.take (dY g))).length:=(Ap _ _).length_eq;have h2:=JZ (fq (bA g)) p.2 (eT.take (dY g));have h3:=Bu g;rw[iL]at h2;omega
def gN(g:cO)(k:Int):List (List Int):=
 if k=0 then lH g.cells.length
 else if k=1 then ku g (λs=>(s.2,true))
 else if k=2 then ku g (λs=>(s.1,true))
 else if k=3 then uo g
 else if k=4 then fH g
 else if k=5 then pJ (fH g)
 else if k=6 then kF (fH g)
 else[upTo' g.cells.length]
end Kd
namespace Kd
open Go Go.Ideal
def yg(p:Int):List Int->Nat
 |[]=>0
 |a::l=>if p=a then 0 else yg p l+1
theorem OW{p:Int}:∀{l:List Int} {n:Nat},l.Pairwise (·<·)->l[n]? =some p->yg p l=n
 |[],n,_,h=>by simp at h
 |a::l,0,_,h=>by
  have h:a=p:=by simpa using h
  unfold yg;rw[if_pos h.symm]
 |a::l,n+1,hp,h=>by
  have h:l[n]? =some p:=by simpa using h
  have h1:=(nL.1 hp).1 p (aR h);unfold yg;rw[if_neg (by omega),OW (nL.1 hp).2 h]
theorem OX{p:Int}:∀{l:List Int},p∈l->yg p l<l.length
 |[],h=>by cases h
 |a::l,h=>by
  unfold yg;by_cases e:p=a
  ·rw[if_pos e,lN];omega
  ·rw[if_neg e,lN];have:=OX (p:=p) (l:=l) ((bN.1 h).resolve_left e);omega
def zQ(xs:List Int):List (Int×Value):=xs.foldl (λm c=>upd c (.bool true) m) []
theorem We(xs:List Int)(c:Int):zQ (xs++[c])=upd c (.bool true) (zQ xs):=by
 unfold zQ;rw[Aq];rfl
theorem agj(c:Int)(n:Nat):∀xs:List Int,xs.length=n->dU c (zQ xs)=if c∈xs then some (.bool true)else none:=by
 induction n with
 |zero=>
  intro xs h;rw[lQ.1 h];rfl
 |succ n ih=>
  intro xs h;obtain⟨ys,p,rfl⟩:∃ys p,xs=ys++[p]:=⟨xs.dropLast,xs.getLast (by intro e;rw[e]at h;cases h),(Et _).symm⟩
  rw[We,zP,ih ys (by simpa using h)];by_cases e:c=p
  ·subst e;simp
  ·simp[e]
theorem agk(c:Int)(xs:List Int):kU false (.bool false) c (zQ xs)=.bool (decide (c∈xs)):=by
 unfold kU;rw[agj c _ xs rfl];by_cases e:c∈xs
 ·rw[if_pos e,fQ e];rfl
 ·rw[if_neg e,dM e];rfl
theorem Wh:∀(m:Nat) (l:List Int),l.Nodup->(∀x∈l,0<=x/\x<(m:Int))->l.length<=m:=by
 intro m;induction m with
 |zero=>
  intro l _ h;cases l with
  |nil=>exact bB _
  |cons x l=>have:=h x (bR ..);omega
 |succ m ih=>
  intro l hn h;have h1:=ih (l.erase (m:Int)) (hn.erase _) (λx hx=>by
   have:=h x (List.mem_of_mem_erase hx);have hne:x≠(m:Int):=λe=>by subst e;exact(List.Nodup.mem_erase_iff hn).1 hx|>.1 rfl
   omega)
  rw[List.length_erase]at h1;split at h1<;>omega
structure J7(g:cO)(ps:List Int):Prop where
 ne:ps≠[]
 mem:∀p∈ps,p∈g.cells
 nd:(ps.map λp=>(yg p g.cells:Int)).Nodup
structure yj(g:cO)(rs:List (List Int)):Prop where
 len:rs.length<=64
 all:∀ps∈rs,J7 g ps
def iP(g:cO)(ps:List Int):List Int:=ps.map λp=>(yg p g.cells:Int)
def iE(g:cO)(rs:List (List Int)):List (List Int):=rs.map (iP g)
theorem OY{g:cO}{ps:List Int}(hm:∀p∈ps,p∈g.cells)(hn:(iP g ps).Nodup):ps.length<=g.cells.length:=by
 have:=Wh g.cells.length (iP g ps) hn (λx hx=>by
  obtain⟨p,hp,rfl⟩:=cZ.1 hx;have:=OX (hm p hp);omega)
 unfold iP at this
 rwa [bJ]at this
end Kd
namespace Kd
open Go Go.Ideal
def vC(xs:List Int):List (Int×Value):=(xs.foldl (λs c=>(upd c (.int .i64 ((s.2.count c:Nat)+1)) s.1,s.2++[c])) (([]:List (Int×Value)),([]:List Int))).1
theorem agl(xs:List Int):∀(m:List (Int×Value)) (ys:List Int),(xs.foldl (λs c=>(upd c (.int .i64 ((s.2.count c:Nat)+1)) s.1,s.2++[c])) (m,ys)).2=ys++xs:=by
 induction xs with
 |nil=>intro m ys;simp
 |cons x xs ih=>intro m ys;rw[sN,ih];simp
theorem Wi(xs:List Int)(c:Int):vC (xs++[c])=upd c (.int .i64 ((xs.count c:Nat)+1)) (vC xs):=by
 unfold vC;rw[Aq,sN,List.foldl_nil];show upd c _ _=_;rw[agl,bH]
theorem agm(c:Int)(n:Nat):∀xs:List Int,xs.length=n->dU c (vC xs)=if c∈xs then some (.int .i64 (xs.count c:Nat))else none:=by
 induction n with
 |zero=>
  intro xs h;rw[lQ.1 h];rfl
 |succ n ih=>
  intro xs h;obtain⟨ys,p,rfl⟩:∃ys p,xs=ys++[p]:=⟨xs.dropLast,xs.getLast (by intro e;rw[e]at h;cases h),(Et _).symm⟩
  rw[Wi,zP,ih ys (by simpa using h)];by_cases e:c=p
  ·subst e;simp
  ·have e2:¬p=c:=λh=>e h.symm;simp[e,e2,List.count_cons,List.count_append]
theorem Wj(c:Int)(xs:List Int):kU false (.int .i64 0) c (vC xs)=.int .i64 (xs.count c:Nat):=by
 unfold kU;rw[agm c _ xs rfl];by_cases e:c∈xs
 ·rw[if_pos e];rfl
 ·rw[if_neg e,List.count_eq_zero_of_not_mem e];rfl
theorem agn(c:Int)(xs:List Int):xs.count c<=xs.length:=List.count_le_length ..
def bE(d:dN):cO:=⟨d.shape,d.w,d.h,d.holes,qU d.w d.h d.holes⟩
def nT(d:dN):List (List (List Int)):=((List.range 8).map λf:Nat=>gN (bE d) (f:Int))++d.regions.map λr=>iE (bE d) r.lists
def qm(d:dN):aU:=⟨d,bE d,fH (bE d),nT d⟩
