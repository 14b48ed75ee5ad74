/-
  Kinds, in plain lists: declarations, how names are resolved; how they lie in cells.
-/
import Derived.Test.YtoohgkkmdnbnfaaGreatDoorIdealND
set_option linter.all false
namespace Kd
open Go Go.Ideal
structure ol where
 name:ByteArray
 value:Int
 deriving DecidableEq
structure lX where
 name:ByteArray
 lists:List (List Int)
 deriving DecidableEq
structure iR where
 name:ByteArray
 on:ByteArray
 family:Int
 type:Int
 lo:Int
 hi:Int
 deriving DecidableEq
structure aQ where
 name:ByteArray
 on:ByteArray
 kind:Int
 family:Int
 names:List ByteArray
 others:List ByteArray
 set:Int
 other:Int
 op:Int
 n:Int
 bW:ByteArray
 aH:Int
 deriving DecidableEq
structure bF where
 name:ByteArray
 version:Int
 shape:Int
 w:Int
 h:Int
 holes:List Int
 symbols:List ol
 regions:List lX
 aJ:List iR
 rules:List aQ
 deriving DecidableEq
structure bC where
 shape:Int
 w:Int
 h:Int
 holes:List Int
 cells:List Int
 deriving DecidableEq
structure bS where
 decl:bF
 grid:bC
 bq:List (List Int)
 lists:List (List (List Int))
 deriving DecidableEq
def fq:Enc ol:=⟨2,Unit,λx _=>[.string x.name,.int .i64 x.value],λ_ _=>[],λ_ _=>rfl⟩
def eG:Enc lX:=⟨2,Value,λx v=>[.string x.name,v],λx v=>[ah (aj aa) v x.lists],λ_ _=>rfl⟩
def bM:Enc iR:=⟨6,Unit,λx _=>[.string x.name,.string x.on,.int .i64 x.family,.int .i64 x.type,.int .i64 x.lo,.int .i64 x.hi],λ_ _=>[],λ_ _=>rfl⟩
abbrev iQ(x:aQ)(v1 v2:Value):List Value:=[.string x.name,.string x.on,.int .i64 x.kind,.int .i64 x.family,v1,v2,.int .i64 x.set,.int .i64 x.other,.int .i64 x.op,.int .i64 x.n,.string x.bW,.int .i64 x.aH]
def aY:Enc aQ:=⟨12,Value×Value,λx v=>iQ x v.1 v.2,λx v=>[ah aT v.1 x.names,ah aT v.2 x.others],λ_ _=>rfl⟩
abbrev gD(d:bF)(vh vs vr vc vu:Value):List Value:=[.string d.name,.int .i64 d.version,.int .i64 d.shape,.int .i64 d.w,.int .i64 d.h,vh,vs,vr,vc,vu]
abbrev kM(d:bF)(vh vs vr vc vu:Value):List aF:=[ah aa vh d.holes,ah fq vs d.symbols,ah eG vr d.regions,ah bM vc d.aJ,ah aY vu d.rules]
def dU(s:ByteArray):List ByteArray->Nat
 |[]=>0
 |a::l=>if s=a then 0 else dU s l+1
theorem xX{s:ByteArray}:∀{l:List ByteArray},s∈l->dU s l<l.length
 |[],h=>by cases h
 |a::l,h=>by
  unfold dU;split
  ·simp
  ·rename_i hne;have:=xX ((dH.1 h).resolve_left hne);simp;omega
def fu(names:List ByteArray)(start:Nat):List (ByteArray×Value):=names.zipIdx.map λp=>(p.1,.int .i64 ((start+p.2:Nat):Int))
theorem Me(a b:List ByteArray)(start:Nat):fu (a++b) start=fu a start++fu b (start+a.length):=by
 unfold fu;rw[Cy,eB];congr 1;rw[show b.zipIdx (0+a.length)=(b.zipIdx 0).map (λp=>(p.1,p.2+a.length))by
  rw[fD];conv=>lhs;rw[show a.length=0+a.length by omega]
  rw[List.zipIdx_eq_map_add];apply Fb;rintro⟨s,i⟩ _;simp only;rw[show 0+a.length+i=i+a.length by omega]]
 rw[uW];apply Fb;rintro⟨s,i⟩ _;simp only[Function.comp];rw[show start+(i+a.length)=start+a.length+i by omega]
theorem rQ(names:List ByteArray)(start:Nat):(fu names start).map (·.1)=names:=by
 unfold fu;rw[uW];have:((λp:ByteArray×Value=>p.1)∘λp:ByteArray×Nat=>(p.1,Value.int .i64 ((start+p.2:Nat):Int)))=Prod.fst:=rfl;rw[this,List.zipIdx_map_fst]
theorem vY{α β:Type}[DecidableEq α](a b:α)(v:β)(l:List (α×β)):dG a ((b,v)::l)=if a=b then some v else dG a l:=rfl
theorem qC{α β:Type}[DecidableEq α]{a:α}:∀{l:List (α×β)},a∉l.map (·.1)->dG a l=none
 |[],_=>rfl
 |(b,v)::l,h=>by
  unfold dG;rw[if_neg (λe=>h (by rw[e];simp)),qC (λh2=>h (by simp only[gT];exact dJ _ h2))]
theorem Eh{α β:Type}[DecidableEq α]{a:α}:∀{l:List (α×β)},a∈l.map (·.1)->∃v,dG a l=some v
 |[],h=>by cases h
 |(b,v)::l,h=>by
  unfold dG;by_cases e:a=b
  ·exact⟨v,by rw[if_pos e]⟩
  ·obtain⟨u,hu⟩:=Eh (l:=l) ((dH.1 h).resolve_left e);exact⟨u,by rw[if_neg e,hu]⟩
theorem vZ{s:ByteArray}:∀{names:List ByteArray} {start:Nat},s∈names->dG s (fu names start)=some (.int .i64 ((start+dU s names:Nat):Int))
 |[],start,h=>by cases h
 |a::l,start,h=>by
  have e:fu (a::l) start=(a,.int .i64 ((start:Nat):Int))::fu l (start+1):=by
   have:=Me [a] l start;simpa[fu]using this
  rw[e];unfold dG dU;by_cases hs:s=a
  ·rw[if_pos hs,if_pos hs];rfl
  ·rw[if_neg hs,if_neg hs,vZ ((dH.1 h).resolve_left hs),show start+1+dU s l=start+(dU s l+1)by omega]
theorem BI{α β:Type}[DecidableEq α]{a:α}{v:β}:∀{l:List (α×β)},a∉l.map (·.1)->upd a v l=l++[(a,v)]
 |[],_=>rfl
 |(b,u)::l,h=>by
  unfold upd;rw[if_neg (λe=>h (by rw[e];simp)),BI (λh2=>h (by simp only[gT];exact dJ _ h2))];rfl
def iM:List ByteArray:=[⟨⟨[99,101,108,108,115]⟩⟩,⟨⟨[114,111,119,115]⟩⟩,⟨⟨[99,111,108,117,109,110,115]⟩⟩,⟨⟨[100,105,97,103,111,110,97,108,115]⟩⟩,⟨⟨[97,114,111,117,110,100]⟩⟩,⟨⟨[110,101,97,114]⟩⟩,⟨⟨[112,97,105,114,115]⟩⟩,⟨⟨[97,108,108]⟩⟩]
def bO(d:bF):List ByteArray:=d.symbols.map (·.name)
def bV(d:bF):List ByteArray:=iM++d.regions.map (·.name)
def dI(d:bF):List ByteArray:=d.aJ.map (·.name)
def mJ(d:bF):List ByteArray:=d.rules.map (·.name)
def gp(dO l:List ByteArray):Nat:=l.foldl (λm s=>m|||1<<<dU s dO) 0
def kU(oM:List ByteArray)(c:iR):iR:={c with family:=(dU c.on oM:Int)}
def lY(dO oM jm:List ByteArray)(r:aQ):aQ:=
 {r with family:=if r.on=⟨⟨[]⟩⟩then 0 else(dU r.on oM:Int),aH:=if r.bW=⟨⟨[]⟩⟩then -1 else(dU r.bW jm:Int),set:=(gp dO r.names:Int),other:=(gp dO r.others:Int)}
def bG(d:bF):bF:={d with aJ:=d.aJ.map (kU (bV d)),rules:=d.rules.map (lY (bO d) (bV d) (dI d))}
structure zK(dO oM jm:List ByteArray)(r:aQ):Prop where
 on:r.on=⟨⟨[]⟩⟩\/r.on∈oM
 names:∀s∈r.names,s∈dO
 others:∀s∈r.others,s∈dO
 bW:r.bW=⟨⟨[]⟩⟩\/r.bW∈jm
structure BJ(d:bF):Prop where
 dO:d.symbols.length<=16
 Su:(bO d).Nodup
 Sv:(bV d).Nodup
 Sw:(dI d).Nodup
 Mf:∀c∈d.aJ,c.on∈bV d
 Sy:(mJ d).Nodup
 uD:∀r∈d.rules,zK (bO d) (bV d) (dI d) r
def jA{α:Type}(f:α->α)(k:Nat)(xs:List α):List α:=(xs.take k).map f++xs.drop k
theorem Sz{α:Type}(f:α->α)(xs:List α):jA f xs.length xs=xs.map f:=by simp[jA]
theorem xY{α:Type}(f:α->α)(k:Nat)(xs:List α):(jA f k xs).length=xs.length:=by simp[jA];omega
theorem SA{α:Type}(f:α->α){k:Nat}{xs:List α}(hk:k<xs.length):(jA f k xs)[k]? =xs[k]?:=by
 unfold jA;rw[qN (by simp;omega),cz,gW,Ar (by omega),Aq,qc,Al]
theorem SB{α:Type}(f:α->α){k:Nat}{xs:List α}{x:α}(hx:xs[k]? =some x):(jA f k xs).set k (f x)=jA f (k+1) xs:=by
 have hk:=(bP.1 hx).1;unfold jA;rw[List.set_append_right _ _ (by simp;omega),cz,gW,Ar (by omega),Aq];have hd:xs.drop k=x::xs.drop (k+1):=by
  rw[pg hk];congr 1;rw[cO hk]at hx;exact Option.some.inj hx
 rw[hd,mo,hx,eB];simp
end Kd
namespace Kd
open Go Go.Ideal
structure nL(s w h:Int)(holes:List Int):Prop where
 sh:s=1\/s=2
 wi:1<=w/\w<=16
 he:1<=h/\h<=16
 len:(holes.length:Int)<w*h
 inc:holes.Pairwise (·<·)
 mem:∀x∈holes,0<=x/\x<w*h
def gG(n:Nat)(holes:List Int):List Int:=((List.range n).map λi:Nat=>(i:Int)).filter λi=>!decide (i∈holes)
theorem Ie(n:Nat)(holes:List Int):gG (n+1) holes=gG n holes++if(n:Int)∈holes then[]else[(n:Int)]:=by
 unfold gG;rw[Jy,eB,wV];congr 1;by_cases h:(n:Int)∈holes
 ·simp[h]
 ·simp[h]
theorem BK(n:Nat)(holes:List Int):(gG n holes).length<=n:=by
 unfold gG;refine mh (Au _ _) ?_;simp
theorem SC{n:Nat}{holes:List Int}{x:Int}(h:x∈gG n holes):0<=x/\x<n/\x∉holes:=by
 unfold gG at h;obtain⟨h1,h2⟩:=uf.1 h;obtain⟨i,hi,rfl⟩:=fE.1 h1;have:=tX.1 hi;exact⟨by omega,by omega,by simpa using h2⟩
theorem Mg(n:Nat)(holes:List Int):(gG n holes).Pairwise (·<·):=by
 unfold gG;refine List.Pairwise.filter _ ?_;rw[Fs];exact List.Pairwise.imp (λh=>by omega) List.pairwise_lt_range
def lZ(w h:Int)(holes:List Int):List Int:=gG (w*h).toNat holes
theorem wh{w h:Int}(hw:1<=w/\w<=16)(hh:1<=h/\h<=16):1<=w*h/\w*h<=256:=by
 have h1:1*1<=w*h:=Int.mul_le_mul hw.1 hh.1 (by omega) (by omega);have h2:w*h<=16*16:=Int.mul_le_mul hw.2 hh.2 (by omega) (by omega);omega
structure fw(g:bC):Prop where
 make:nL g.shape g.w g.h g.holes
 cells:g.cells=lZ g.w g.h g.holes
theorem fw.cell{g:bC}(h:fw g):∀x∈g.cells,0<=x/\x<256:=by
 intro x hx;rw[h.cells]at hx;have h1:=SC hx;have h2:=wh h.make.wi h.make.he;omega
theorem fw.len{g:bC}(h:fw g):g.cells.length<=256:=by
 rw[h.cells];have h1:=BK (g.w*g.h).toNat g.holes;have h2:=wh h.make.wi h.make.he;unfold lZ;omega
def mK(g:bC)(pos:Int):Int×Int:=(if g.shape=2 then pos.tmod g.w - (pos.tdiv g.w).tdiv 2 else pos.tmod g.w,pos.tdiv g.w)
def bE(g:bC):List (Int×(Int×Int)):=g.cells.zipIdx.map λp=>((p.2:Int),mK g p.1)
theorem wm{g:bC}{k:Nat}{x:Int}(h:g.cells[k]? =some x):(bE g)[k]? =some ((k:Int),mK g x):=by
 unfold bE;rw[fA,List.getElem?_zipIdx,h];simp
theorem oN(g:bC):(bE g).length=g.cells.length:=by simp[bE]
theorem SE{a b:List Int}(h:a.Perm b):dn a=dn b:=by
 have h1:(dn a).Perm (dn b):=(yQ a _).trans (h.trans (yQ b _).symm);have s1:(dn a).Pairwise (λx y=>x<=y):=by
  have:=Oi (le:=λx y:Int=>decide (x<=y)) (λa b c h1 h2=>by simp at h1 h2⊢;omega) (λa b=>by simp;omega) a;exact this.imp (λh=>by simpa using h)
 have s2:(dn b).Pairwise (λx y=>x<=y):=by
  have:=Oi (le:=λx y:Int=>decide (x<=y)) (λa b c h1 h2=>by simp at h1 h2⊢;omega) (λa b=>by simp;omega) b;exact this.imp (λh=>by simpa using h)
 generalize dn a=u at h1 s1;generalize dn b=v at h1 s2;clear h;induction u generalizing v with
 |nil=>exact(List.nil_perm.1 h1).symm▸rfl
 |cons x u ih=>
  cases v with
  |nil=>exact absurd h1.length_eq (by simp)
  |cons y v=>
   have hxy:x=y:=by
    have hx:x∈y::v:=h1.mem_iff.1 (dM ..);have hy:y∈x::u:=h1.mem_iff.2 (dM ..);rcases dH.1 hx with e|hx
    ·exact e
    rcases dH.1 hy with e|hy
    ·exact e.symm
    have:=(si.1 s1).1 y hy;have:=(si.1 s2).1 x hx;omega
   subst hxy;rw[ih (si.1 s1).2 v ((List.perm_cons x).1 h1) (si.1 s2).2]
def dY:List (Int×Int):=[(1,0),(-1,0),(0,1),(0, -1),(1, -1),(-1,1)]
def dQ(g:bC):Nat:=if g.shape=1 then 4 else 6
def eX(xs:List (Int×(Int×Int))):List ((Int×Int)×Value):=xs.foldl (λm p=>upd p.2 (.int .i64 p.1) m) []
theorem Mh(xs:List (Int×(Int×Int)))(p:Int×(Int×Int)):eX (xs++[p])=upd p.2 (.int .i64 p.1) (eX xs):=by
 unfold eX;rw[Fu];rfl
theorem SF{xs:List (Int×(Int×Int))}:∀a v,dG a (eX xs)=some v->∃c,v=.int .i64 c/\∃p∈xs,p.1=c:=by
 have hup:∀(m:List ((Int×Int)×Value)) (b:Int×Int) (u:Value) (a:Int×Int) (v:Value),dG a (upd b u m)=some v->(a=b/\v=u)\/dG a m=some v:=by
  intro m;induction m with
  |nil=>
   intro b u a v h;have h:(if a=b then some u else none)=some v:=h;by_cases e:a=b
   ·rw[if_pos e]at h;exact .inl ⟨e,(Option.some.inj h).symm⟩
   ·rw[if_neg e]at h;cases h
  |cons q m ih=>
   intro b u a v h;obtain⟨k,w⟩:=q;unfold upd at h;by_cases e:b=k
   ·rw[if_pos e,vY]at h;by_cases e2:a=b
    ·rw[if_pos e2]at h;exact .inl ⟨e2,(Option.some.inj h).symm⟩
    ·rw[if_neg e2]at h;right;rw[vY,if_neg (λe3=>e2 (e3.trans e.symm))];exact h
   ·rw[if_neg e,vY]at h;by_cases e2:a=k
    ·rw[if_pos e2]at h;right;rw[vY,if_pos e2];exact h
    ·rw[if_neg e2]at h;rcases ih b u a v h with h|h
     ·exact .inl h
     ·right;rw[vY,if_neg e2];exact h
 unfold eX;have:∀(xs:List (Int×(Int×Int))) (m:List ((Int×Int)×Value)) a v,dG a (xs.foldl (λm p=>upd p.2 (.int .i64 p.1) m) m)=some v->(∃c,v=.int .i64 c/\∃p∈xs,p.1=c)\/dG a m=some v:=by
  intro xs;induction xs with
  |nil=>intro m a v h;exact .inr h
  |cons p xs ih=>
   intro m a v h;rw[tN]at h;rcases ih _ a v h with⟨c,h1,q,hq,h2⟩|h
   ·exact .inl ⟨c,h1,q,dJ _ hq,h2⟩
   ·rcases hup m p.2 _ a v h with⟨_,h1⟩|h
    ·exact .inl ⟨p.1,h1,p,dM ..,rfl⟩
    ·exact .inr h
 intro a v h;rcases this xs [] a v h with h|h
 ·exact h
 ·cases h
def numOf:Option Value->Option Int
 |some (.int .i64 n)=>some n
 |_=>none
def gq(m:List ((Int×Int)×Value))(s:Int×Int)(ds:List (Int×Int)):List Int:=ds.filterMap λd=>numOf (dG (s.1+d.1,s.2+d.2) m)
theorem ab0(m:List ((Int×Int)×Value))(s:Int×Int)(ds:List (Int×Int))(d:Int×Int):gq m s (ds++[d])=gq m s ds++(numOf (dG (s.1+d.1,s.2+d.2) m)).toList:=by
 unfold gq;rw[Oj];congr 1
theorem Ig(m:List ((Int×Int)×Value))(s:Int×Int)(ds:List (Int×Int)):(gq m s ds).length<=ds.length:=VH _ _
def kV(g:bC)(p:Int×(Int×Int)):List Int:=dn (gq (eX (bE g)) p.2 (dY.take (dQ g)))
def bJ(g:bC):List (List Int):=(bE g).map (kV g)
theorem Ih{g:bC}(h:fw g):∀p∈bE g,(0<=p.1/\p.1<256)/\(-256<=p.2.1/\p.2.1<256)/\(0<=p.2.2/\p.2.2<256):=by
 intro p hp;obtain⟨k,hk⟩:=tY.1 hp;have hkl:=(bP.1 hk).1;rw[oN]at hkl;have hx:g.cells[k]? =some g.cells[k]:=cO hkl;rw[wm hx]at hk;cases hk;have hb:=h.cell _ (bH hx);have hl:=h.len;generalize g.cells[k]=x at hb;have hw:=h.make.wi;have hq:0<=x.tdiv g.w/\x.tdiv g.w<=x:=by
  rw[sj hb.1];exact⟨Jz hb.1 (by omega),Int.ediv_le_self _ hb.1⟩
 have hr:0<=x.tmod g.w/\x.tmod g.w<=x:=by
  rw[Cz hb.1];refine⟨Int.emod_nonneg _ (by omega),?_⟩;have:=Ol x g.w;have h3:0<=g.w*(x/g.w):=Int.mul_nonneg (by omega) (Jz hb.1 (by omega));omega
 have hq2:0<=(x.tdiv g.w).tdiv 2/\(x.tdiv g.w).tdiv 2<=x.tdiv g.w:=by
  rw[sj hq.1];omega
 unfold mK;dsimp only;refine⟨by omega,?_,by omega⟩;split<;>omega
def Mi:Enc (Int×Int):=⟨2,Unit,λx _=>[.int .i64 x.1,.int .i64 x.2],λ_ _=>[],λ_ _=>rfl⟩
abbrev BL:List Value:=[.int .i64 1,.int .i64 0,.int .i64 (-1),.int .i64 0,.int .i64 0,.int .i64 1,.int .i64 0,.int .i64 (-1),.int .i64 1,.int .i64 (-1),.int .i64 (-1),.int .i64 1]
theorem ab1{w:Wd}{b m:Nat}(h:(eH b 0 BL).p w)(hm:m<=6):(ah Mi (.slice (some ⟨b,0,some 0⟩) m 6) (dY.take m)).p w:=by
 obtain⟨cells,h1,h2⟩:=h;have hl:(dY.take m).length=m:=by rw[gW];show min m 6=m;omega
 refine .inr ⟨b,0,0,6,cells,⟨by rw[hl],by rw[hl];exact hm,.inl rfl⟩,h1,λk x hk=>⟨(),λj u hj=>?_,λf hf=>by cases hf⟩⟩;have hk':dY[k]? =some x:=by
  rw[tV]at hk;split at hk
  ·exact hk
  ·cases hk
 have:=h2 (k*2+j) u (zH (E:=Mi) (aL:=dY.map λd=>(d,())) (k:=k) (p:=(x,())) (by rw[fA,hk'];rfl) hj);show cells[0+k*2+j]? =_;rw[show 0+k*2+j=0+(k*2+j)by omega];exact this
theorem ab2:∀d∈dY,(-1<=d.1/\d.1<=1)/\(-1<=d.2/\d.2<=1):=by decide
theorem ab3{j:Nat}{d:Int×Int}(h:dY[j]? =some d):iY (jE BL (j*2)) 2=some [.int .i64 d.1,.int .i64 d.2]:=by
 have hj:j<6:=(bP.1 h).1;match j,hj with
 |0,_=>cases h;rfl
 |1,_=>cases h;rfl
 |2,_=>cases h;rfl
 |3,_=>cases h;rfl
 |4,_=>cases h;rfl
 |5,_=>cases h;rfl
theorem bU{α:Type}{xs:List α}{k:Nat}{x:α}(h:xs[k]? =some x):xs.take (k+1)=xs.take k++[x]:=by
 rw[mo,h];rfl
theorem zM(g:bC):dQ g<=6:=by unfold dQ;split<;>omega
theorem ab4{P:Program}{ρ:Operand->Value}{x hi:Operand}{n size b m:Nat}(hx:ρ x=.pointer (some ⟨b,0,none⟩))(hh:ρ hi=.int .i64 (m:Int))(hm:m<=n):Pu P ρ (.JB n size x none (some hi) none) (.slice (some ⟨b,0,some 0⟩) m n):=λh=>by
 have hb:bounds? n n none (some (.int .i64 (m:Int))) none=some (0,m,n):=by
  show(match upTo n (.int .i64 (m:Int))with|none=>none|some hh=>_)=_;have:upTo n (.int .i64 (m:Int))=some m:=by
   show cond (Nat.ble m n) (some m) none=_;have:Nat.ble m n=true:=by rw[tO];exact hm
   rw[this];rfl
  rw[this]
 simp only[aC.run,hx,jd,hh,hb];show some (Value.slice (yU b (Nat.add 0 (Nat.mul 0 size))) (Nat.sub m 0) (Nat.sub n 0),h)=_;rw[show Nat.mul 0 size=0 from Fj _];rfl
theorem wo{g:bC}{k:Nat}{p:Int×(Int×Int)}(h:(bE g)[k]? =some p):p.1=(k:Int):=by
 have hk:=(bP.1 h).1;rw[oN]at hk;rw[wm (cO hk)]at h;cases h;rfl
theorem Ii{g:bC}{vs rest:List (Int×(Int×Int))}{x:Int×(Int×Int)}(h:vs++x::rest=bE g):x.1=(vs.length:Int)/\vs.length<g.cells.length/\x∈bE g:=by
 have h1:(bE g)[vs.length]? =some x:=by rw[<- h];simp
 refine⟨wo h1,?_,bH h1⟩;have:=(bP.1 h1).1
 rwa [oN]at this
theorem SG{A:List (List Int)}{n:Nat}(h:A.length<n)(y:List Int):(A++List.replicate (n - A.length) []).set A.length y=(A++[y])++List.replicate (n - (A.length+1)) []:=by
 rw[List.set_append_right _ _ (bQ _),Aq,show n - A.length=(n - (A.length+1))+1 by omega,List.replicate_succ,List.set_cons_zero];simp
theorem ab5{α:Type}{ws:List α}{k:Nat}{v:α}(h:ws[k]? =some v):ws.set k v=ws:=by
 apply kE;intro i;rw[uV];by_cases e:k=i
 ·subst e;rw[if_pos rfl,if_pos (bP.1 h).1,h]
 ·rw[if_neg e]
theorem xZ(g:bC):(bJ g).length=g.cells.length:=by
 unfold bJ;rw[cz,oN]
theorem ab6(g:bC):(bE g).foldl (λ(xss:List (List Int)) (x:Int×(Int×Int))=>xss.set x.1.toNat (kV g x)) (List.replicate g.cells.length [])=bJ g:=by
 have key:∀(rest vs:List (Int×(Int×Int))),vs++rest=bE g->rest.foldl (λ(xss:List (List Int)) (x:Int×(Int×Int))=>xss.set x.1.toNat (kV g x)) (vs.map (kV g)++List.replicate (g.cells.length - vs.length) [])=bJ g:=by
  intro rest;induction rest with
  |nil=>
   intro vs h;rw[gN]at h;rw[List.foldl_nil,h,oN,Aq,List.replicate_zero,gN];rfl
  |cons x rest ih=>
   intro vs h;have h1:=Ii h;rw[tN,h1.1,Am];have h2:=SG (A:=vs.map (kV g)) (n:=g.cells.length) (by rw[cz];exact h1.2.1) (kV g x);rw[cz]at h2;rw[h2];have h3:=ih (vs++[x]) (by rw[fB];exact h);rw[eB,gH]at h3;exact h3
 have:=key (bE g) [] rfl;rw[List.map_nil,bZ,Jq,Cx]at this;exact this
end Kd
namespace Kd
open Go Go.Ideal
theorem ww{α β:Type}[DecidableEq α](a b:α)(v:β):∀m:List (α×β),dG a (upd b v m)=if a=b then some v else dG a m
 |[]=>rfl
 |(k,w)::m=>by
  unfold upd;by_cases e:b=k
  ·rw[if_pos e,vY,vY];by_cases e2:a=b
   ·rw[if_pos e2,if_pos e2]
   ·rw[if_neg e2,if_neg e2,if_neg (λe3=>e2 (e3.trans e.symm))]
  ·rw[if_neg e,vY,vY,ww a b v m];by_cases e2:a=k
   ·rw[if_pos e2,if_pos e2,if_neg (λe3=>e (e3.symm.trans e2))]
   ·rw[if_neg e2,if_neg e2]
theorem SH{α β:Type}[DecidableEq α](b:α)(v:β):∀m:List (α×β),(upd b v m).length<=m.length+1
 |[]=>bQ _
 |(k,w)::m=>by
  unfold upd;by_cases e:b=k
  ·rw[if_pos e,o8,o8];omega
  ·rw[if_neg e,o8,o8];have:=SH b v m;omega
def uE(kf:Int×Int->Int×Bool)(m:List (Int×List Int))(p:Int×(Int×Int)):List (Int×List Int):=
 cond (kf p.2).2 (upd (kf p.2).1 ((dG (kf p.2).1 m).getD []++[p.1]) m) m
def jo(kf:Int×Int->Int×Bool)(ps:List (Int×(Int×Int))):List (Int×List Int):=ps.foldl (uE kf) []
theorem Ei(kf:Int×Int->Int×Bool)(ps:List (Int×(Int×Int)))(p:Int×(Int×Int)):jo kf (ps++[p])=uE kf (jo kf ps) p:=by
 unfold jo;rw[Fu];rfl
theorem Mj(kf:Int×Int->Int×Bool)(n:Nat):∀ps:List (Int×(Int×Int)),ps.length=n->(jo kf ps).length<=ps.length/\∀a,((dG a (jo kf ps)).getD []).length<=ps.length:=by
 induction n with
 |zero=>
  intro ps h;rw[jM.1 h];exact⟨bQ _,λa=>bQ _⟩
 |succ n ih=>
  intro ps h;obtain⟨qs,p,rfl⟩:∃qs p,ps=qs++[p]:=⟨ps.dropLast,ps.getLast (by intro e;rw[e]at h;cases h),(Av _).symm⟩
  have hq:qs.length=n:=by simpa using h
  obtain⟨h1,h2⟩:=ih qs hq;rw[Ei,gH,uU];unfold uE;cases (kf p.2).2 with
  |false=>exact⟨by show(jo kf qs).length<=_;omega,λa=>by have:=h2 a;show((dG a (jo kf qs)).getD []).length<=_;omega⟩
  |true=>
   refine⟨?_,λa=>?_⟩
   ·have:=SH (kf p.2).1 ((dG (kf p.2).1 (jo kf qs)).getD []++[p.1]) (jo kf qs);show(upd _ _ _).length<=_;omega
   ·show((dG a (upd _ _ _)).getD []).length<=_;rw[ww];by_cases e:a=(kf p.2).1
    ·rw[if_pos e,tT,gH,uU];have:=h2 (kf p.2).1;omega
    ·rw[if_neg e];have:=h2 a;omega
def iU(g:bC)(kf:Int×Int->Int×Bool):List (List Int):=(dn ((jo kf (bE g)).map (·.1))).map λn=>(dG n (jo kf (bE g))).getD []
theorem Ij{g:bC}(hg:fw g)(kf:Int×Int->Int×Bool):(iU g kf).length<=256/\∀l∈iU g kf,l.length<=256:=by
 have h:=Mj kf _ (bE g) rfl;have hl:=hg.len;rw[oN]at h;unfold iU;refine⟨?_,λl hl2=>?_⟩
 ·rw[cz];have:(dn ((jo kf (bE g)).map (·.1))).length=((jo kf (bE g)).map (·.1)).length:=(yQ _ _).length_eq;rw[this,cz];omega
 ·obtain⟨n,_,rfl⟩:=fE.1 hl2;have:=h.2 n;omega
def wy(acc:List (List Int))(l:List Int):List (List Int):=if acc.head? =some l then acc else acc++[l]
def lF(a b:List (List Int)):List (List Int):=b.foldl wy a
theorem SI{a b:List (List Int)}{k:Nat}{l:List Int}(h:b[k]? =some l):lF a (b.take (k+1))=wy (lF a (b.take k)) l:=by
 unfold lF;rw[bU h,Fu];rfl
theorem Mk{a b:List (List Int)}{n:Nat}(ha:∀l∈a,l.length<=n)(hb:∀l∈b,l.length<=n):∀k,(lF a (b.take k)).length<=a.length+k/\∀l∈lF a (b.take k),l.length<=n
 |0=>⟨bQ _,ha⟩
 |k+1=>by
  obtain⟨h1,h2⟩:=Mk ha hb k;cases h:b[k]? with
  |none=>
   have:b.take (k+1)=b.take k:=by rw[mo,h];simp
   rw[this];exact⟨by omega,h2⟩
  |some l=>
   rw[SI h];unfold wy;split
   ·exact⟨by omega,h2⟩
   ·rw[gH,uU];refine⟨by omega,λx hx=>?_⟩;rcases dZ.1 hx with hx|hx
    ·exact h2 x hx
    ·rw[bI.1 hx];exact hb l (bH h)
def kW(g:bC):List (List Int):=
 if g.shape=2 then iU g (λs=>(s.1+s.2,true))
 else if g.w=g.h then lF (iU g (λs=>(0,decide (s.1=s.2)))) (iU g (λs=>(0,decide (s.1+s.2=g.w - 1))))
 else[]
theorem uF{l:List Int}{x:Int}:x∈dn l↔x∈l:=(yQ l _).mem_iff
theorem ab7:∀a c:Int,Value.int .i64 a=Value.int .i64 c->a=c:=λa c h=>by injection h
def kN(n:Nat):List (List Int):=(List.range n).map λi:Nat=>[(i:Int)]
theorem SK(k:Nat):kN (k+1)=kN k++[[(k:Int)]]:=by
 unfold kN;rw[Jy,eB];rfl
theorem SL(k:Nat):(kN k).length=k:=by unfold kN;simp
def upTo'(n:Nat):List Int:=(List.range n).map λi:Nat=>(i:Int)
theorem uG(k:Nat):upTo' (k+1)=upTo' k++[(k:Int)]:=by
 unfold upTo';rw[Jy,eB];rfl
theorem rR(k:Nat):(upTo' k).length=k:=by unfold upTo';simp
def kP(bq:List (List Int)):List (List Int):=bq.zipIdx.map λp=>dn (p.1++[(p.2:Int)])
theorem SN{bq:List (List Int)}{k:Nat}{l:List Int}(h:bq[k]? =some l):kP (bq.take (k+1))=kP (bq.take k)++[dn (l++[(k:Int)])]:=by
 have hk:=(bP.1 h).1;unfold kP;rw[bU h,Cy,eB,gW,Ar (by omega)];simp
theorem SQ(bq:List (List Int)):(kP bq).length=bq.length:=by unfold kP;simp
def jB(i:Nat)(l:List Int):List (List Int):=(l.filter λj=>decide ((i:Int)<j)).map λj=>[(i:Int),j]
theorem SS{i j:Nat}{l:List Int}{x:Int}(h:l[j]? =some x):jB i (l.take (j+1))=jB i (l.take j)++if(i:Int)<x then[[(i:Int),x]]else[]:=by
 unfold jB;rw[bU h,wV,eB];by_cases e:(i:Int)<x<;>simp[e]
theorem Ml(i:Nat)(l:List Int):(jB i l).length<=l.length:=by
 unfold jB;rw[cz];exact Au _ _
def gZ(bq:List (List Int)):List (List Int):=bq.zipIdx.flatMap λp=>jB p.2 p.1
theorem Mm{bq:List (List Int)}{k:Nat}{l:List Int}(h:bq[k]? =some l):gZ (bq.take (k+1))=gZ (bq.take k)++jB k l:=by
 have hk:=(bP.1 h).1;unfold gZ;rw[bU h,Cy,List.flatMap_append,gW,Ar (by omega)];simp
theorem Ik{bq:List (List Int)}(hn:∀l∈bq,l.length<=6):∀k,k<=bq.length->(gZ (bq.take k)).length<=6*k
 |0,_=>by simp[gZ]
 |k+1,hk=>by
  have h:bq[k]? =some bq[k]:=cO (by omega);have:=Ik hn k (by omega);have h2:=Ml k bq[k];have h3:=hn bq[k] (wQ _);rw[Mm h,gH];omega
theorem Il{g:bC}:∀l∈bJ g,l.length<=6:=by
 intro l hl;obtain⟨p,_,rfl⟩:=fE.1 hl;unfold kV;have h1:(dn (gq (eX (bE g)) p.2 (dY.take (dQ g)))).length=(gq (eX (bE g)) p.2 (dY.take (dQ g))).length:=(yQ _ _).length_eq;have h2:=Ig (eX (bE g)) p.2 (dY.take (dQ g));have h3:=zM g;rw[gW]at h2;omega
def dA(g:bC)(k:Int):List (List Int):=
 if k=0 then kN g.cells.length
 else if k=1 then iU g (λs=>(s.2,true))
 else if k=2 then iU g (λs=>(s.1,true))
 else if k=3 then kW g
 else if k=4 then bJ g
 else if k=5 then kP (bJ g)
 else if k=6 then gZ (bJ g)
 else[upTo' g.cells.length]
end Kd
namespace Kd
open Go Go.Ideal
def wz(p:Int):List Int->Nat
 |[]=>0
 |a::l=>if p=a then 0 else wz p l+1
theorem Mo{p:Int}:∀{l:List Int} {n:Nat},l.Pairwise (·<·)->l[n]? =some p->wz p l=n
 |[],n,_,h=>by simp at h
 |a::l,0,_,h=>by
  have h:a=p:=by simpa using h
  unfold wz;rw[if_pos h.symm]
 |a::l,n+1,hp,h=>by
  have h:l[n]? =some p:=by simpa using h
  have h1:=(si.1 hp).1 p (bH h);unfold wz;rw[if_neg (by omega),Mo (si.1 hp).2 h]
theorem Mq{p:Int}:∀{l:List Int},p∈l->wz p l<l.length
 |[],h=>by cases h
 |a::l,h=>by
  unfold wz;by_cases e:p=a
  ·rw[if_pos e,o8];omega
  ·rw[if_neg e,o8];have:=Mq (p:=p) (l:=l) ((dH.1 h).resolve_left e);omega
def x8(xs:List Int):List (Int×Value):=xs.foldl (λm c=>upd c (.bool true) m) []
theorem SV(xs:List Int)(c:Int):x8 (xs++[c])=upd c (.bool true) (x8 xs):=by
 unfold x8;rw[Fu];rfl
theorem ab8(c:Int)(n:Nat):∀xs:List Int,xs.length=n->dG c (x8 xs)=if c∈xs then some (.bool true)else none:=by
 induction n with
 |zero=>
  intro xs h;rw[jM.1 h];rfl
 |succ n ih=>
  intro xs h;obtain⟨ys,p,rfl⟩:∃ys p,xs=ys++[p]:=⟨xs.dropLast,xs.getLast (by intro e;rw[e]at h;cases h),(Av _).symm⟩
  rw[SV,ww,ih ys (by simpa using h)];by_cases e:c=p
  ·subst e;simp
  ·simp[e]
theorem ab9(c:Int)(xs:List Int):kv false (.bool false) c (x8 xs)=.bool (decide (c∈xs)):=by
 unfold kv;rw[ab8 c _ xs rfl];by_cases e:c∈xs
 ·rw[if_pos e,dS e];rfl
 ·rw[if_neg e,aU e];rfl
theorem acd:∀(m:Nat) (l:List Int),l.Nodup->(∀x∈l,0<=x/\x<(m:Int))->l.length<=m:=by
 intro m;induction m with
 |zero=>
  intro l _ h;cases l with
  |nil=>exact bQ _
  |cons x l=>have:=h x (dM ..);omega
 |succ m ih=>
  intro l hn h;have h1:=ih (l.erase (m:Int)) (hn.erase _) (λx hx=>by
   have:=h x (List.mem_of_mem_erase hx);have hne:x≠(m:Int):=λe=>by subst e;exact(List.Nodup.mem_erase_iff hn).1 hx|>.1 rfl
   omega)
  rw[List.length_erase]at h1;split at h1<;>omega
structure x9(g:bC)(ps:List Int):Prop where
 ne:ps≠[]
 mem:∀p∈ps,p∈g.cells
 nd:(ps.map λp=>(wz p g.cells:Int)).Nodup
structure yf(g:bC)(rs:List (List Int)):Prop where
 len:rs.length<=64
 all:∀ps∈rs,x9 g ps
def eU(g:bC)(ps:List Int):List Int:=ps.map λp=>(wz p g.cells:Int)
def dV(g:bC)(rs:List (List Int)):List (List Int):=rs.map (eU g)
theorem Im{g:bC}{ps:List Int}(hm:∀p∈ps,p∈g.cells)(hn:(eU g ps).Nodup):ps.length<=g.cells.length:=by
 have:=acd g.cells.length (eU g ps) hn (λx hx=>by
  obtain⟨p,hp,rfl⟩:=fE.1 hx;have:=Mq (hm p hp);omega)
 unfold eU at this
 rwa [cz]at this
end Kd
namespace Kd
open Go Go.Ideal
def sZ(xs:List Int):List (Int×Value):=(xs.foldl (λs c=>(upd c (.int .i64 ((s.2.count c:Nat)+1)) s.1,s.2++[c])) (([]:List (Int×Value)),([]:List Int))).1
theorem ace(xs:List Int):∀(m:List (Int×Value)) (ys:List Int),(xs.foldl (λs c=>(upd c (.int .i64 ((s.2.count c:Nat)+1)) s.1,s.2++[c])) (m,ys)).2=ys++xs:=by
 induction xs with
 |nil=>intro m ys;simp
 |cons x xs ih=>intro m ys;rw[tN,ih];simp
theorem SX(xs:List Int)(c:Int):sZ (xs++[c])=upd c (.int .i64 ((xs.count c:Nat)+1)) (sZ xs):=by
 unfold sZ;rw[Fu,tN,List.foldl_nil];show upd c _ _=_;rw[ace,bZ]
theorem acf(c:Int)(n:Nat):∀xs:List Int,xs.length=n->dG c (sZ xs)=if c∈xs then some (.int .i64 (xs.count c:Nat))else none:=by
 induction n with
 |zero=>
  intro xs h;rw[jM.1 h];rfl
 |succ n ih=>
  intro xs h;obtain⟨ys,p,rfl⟩:∃ys p,xs=ys++[p]:=⟨xs.dropLast,xs.getLast (by intro e;rw[e]at h;cases h),(Av _).symm⟩
  rw[SX,ww,ih ys (by simpa using h)];by_cases e:c=p
  ·subst e;simp
  ·have e2:¬p=c:=λh=>e h.symm;simp[e,e2,List.count_cons,List.count_append]
theorem SY(c:Int)(xs:List Int):kv false (.int .i64 0) c (sZ xs)=.int .i64 (xs.count c:Nat):=by
 unfold kv;rw[acf c _ xs rfl];by_cases e:c∈xs
 ·rw[if_pos e];rfl
 ·rw[if_neg e,List.count_eq_zero_of_not_mem e];rfl
theorem S9(c:Int)(xs:List Int):xs.count c<=xs.length:=List.count_le_length ..
def aR(d:bF):bC:=⟨d.shape,d.w,d.h,d.holes,lZ d.w d.h d.holes⟩
def lG(d:bF):List (List (List Int)):=((List.range 8).map λf:Nat=>dA (aR d) (f:Int))++d.regions.map λr=>dV (aR d) r.lists
def j4(d:bF):bS:=⟨d,aR d,bJ (aR d),lG d⟩
