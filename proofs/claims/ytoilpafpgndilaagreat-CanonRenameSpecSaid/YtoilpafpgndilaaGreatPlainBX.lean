/-
  Part PlainBX.
-/
import Derived.Test.YtoilpafpgndilaaGreatIdealNX
set_option linter.all false
namespace Kd
open Go Go.Ideal
structure mU where
 name:ByteArray
 value:Int
 deriving DecidableEq
structure mV where
 name:ByteArray
 lists:List (List Int)
 deriving DecidableEq
structure gW where
 name:ByteArray
 on:ByteArray
 family:Int
 type:Int
 lo:Int
 hi:Int
 deriving DecidableEq
structure bN where
 name:ByteArray
 on:ByteArray
 kind:Int
 family:Int
 names:List ByteArray
 others:List ByteArray
 set:Int
 other:Int
 op:Int
 n:Int
 dS:ByteArray
 aL:Int
 deriving DecidableEq
structure bF where
 name:ByteArray
 version:Int
 shape:Int
 w:Int
 h:Int
 holes:List Int
 symbols:List mU
 regions:List mV
 aJ:List gW
 rules:List bN
 deriving DecidableEq
structure bz where
 shape:Int
 w:Int
 h:Int
 holes:List Int
 cells:List Int
 deriving DecidableEq
structure bD where
 decl:bF
 grid:bz
 aQ:List (List Int)
 lists:List (List (List Int))
 deriving DecidableEq
def fF:Enc mU:=⟨2,Unit,λx _=>[.string x.name,.int .i64 x.value],λ_ _=>[],λ_ _=>rfl⟩
def eY:Enc mV:=⟨2,Value,λx v=>[.string x.name,v],λx v=>[ai (ak ae) v x.lists],λ_ _=>rfl⟩
def bI:Enc gW:=⟨6,Unit,λx _=>[.string x.name,.string x.on,.int .i64 x.family,.int .i64 x.type,.int .i64 x.lo,.int .i64 x.hi],λ_ _=>[],λ_ _=>rfl⟩
abbrev lV(x:bN)(v1 v2:Value):List Value:=[.string x.name,.string x.on,.int .i64 x.kind,.int .i64 x.family,v1,v2,.int .i64 x.set,.int .i64 x.other,.int .i64 x.op,.int .i64 x.n,.string x.dS,.int .i64 x.aL]
def aY:Enc bN:=⟨12,Value×Value,λx v=>lV x v.1 v.2,λx v=>[ai bC v.1 x.names,ai bC v.2 x.others],λ_ _=>rfl⟩
abbrev gB(d:bF)(vh vs vr vc vu:Value):List Value:=[.string d.name,.int .i64 d.version,.int .i64 d.shape,.int .i64 d.w,.int .i64 d.h,vh,vs,vr,vc,vu]
abbrev lG(d:bF)(vh vs vr vc vu:Value):List aO:=[ai ae vh d.holes,ai fF vs d.symbols,ai eY vr d.regions,ai bI vc d.aJ,ai aY vu d.rules]
def dZ(s:ByteArray):List ByteArray->Nat
 |[]=>0
 |a::l=>if s=a then 0 else dZ s l+1
theorem AZ{s:ByteArray}:∀{l:List ByteArray},s∈l->dZ s l<l.length
 |[],h=>by cases h
 |a::l,h=>by
  unfold dZ;split
  ·simp
  ·rename_i hne;have:=AZ ((dx.1 h).resolve_left hne);simp;omega
def fD(names:List ByteArray)(start:Nat):List (ByteArray×Value):=names.zipIdx.map λp=>(p.1,.int .i64 ((start+p.2:Nat):Int))
theorem Nc(a b:List ByteArray)(start:Nat):fD (a++b) start=fD a start++fD b (start+a.length):=by
 unfold fD;rw[PP,fP];congr 1;rw[show b.zipIdx (0+a.length)=(b.zipIdx 0).map (λp=>(p.1,p.2+a.length))by
  rw[fo];conv=>lhs;rw[show a.length=0+a.length by omega]
  rw[List.zipIdx_eq_map_add];apply sN;rintro⟨s,i⟩ _;simp only;rw[show 0+a.length+i=i+a.length by omega]]
 rw[wR];apply sN;rintro⟨s,i⟩ _;simp only[Function.comp];rw[show start+(i+a.length)=start+a.length+i by omega]
theorem tZ(names:List ByteArray)(start:Nat):(fD names start).map (·.1)=names:=by
 unfold fD;rw[wR];have:((λp:ByteArray×Value=>p.1)∘λp:ByteArray×Nat=>(p.1,Value.int .i64 ((start+p.2:Nat):Int)))=Prod.fst:=rfl;rw[this,List.zipIdx_map_fst]
theorem xO{α β:Type}[DecidableEq α](a b:α)(v:β)(l:List (α×β)):dR a ((b,v)::l)=if a=b then some v else dR a l:=rfl
theorem rU{α β:Type}[DecidableEq α]{a:α}:∀{l:List (α×β)},a∉l.map (·.1)->dR a l=none
 |[],_=>rfl
 |(b,v)::l,h=>by
  unfold dR;rw[if_neg (λe=>h (by rw[e];simp)),rU (λh2=>h (by simp only[gL];exact cO _ h2))]
theorem Fp{α β:Type}[DecidableEq α]{a:α}:∀{l:List (α×β)},a∈l.map (·.1)->∃v,dR a l=some v
 |[],h=>by cases h
 |(b,v)::l,h=>by
  unfold dR;by_cases e:a=b
  ·exact⟨v,by rw[if_pos e]⟩
  ·obtain⟨u,hu⟩:=Fp (l:=l) ((dx.1 h).resolve_left e);exact⟨u,by rw[if_neg e,hu]⟩
theorem xP{s:ByteArray}:∀{names:List ByteArray} {start:Nat},s∈names->dR s (fD names start)=some (.int .i64 ((start+dZ s names:Nat):Int))
 |[],start,h=>by cases h
 |a::l,start,h=>by
  have e:fD (a::l) start=(a,.int .i64 ((start:Nat):Int))::fD l (start+1):=by
   have:=Nc [a] l start;simpa[fD]using this
  rw[e];unfold dR dZ;by_cases hs:s=a
  ·rw[if_pos hs,if_pos hs];rfl
  ·rw[if_neg hs,if_neg hs,xP ((dx.1 h).resolve_left hs),show start+1+dZ s l=start+(dZ s l+1)by omega]
theorem CS{α β:Type}[DecidableEq α]{a:α}{v:β}:∀{l:List (α×β)},a∉l.map (·.1)->upd a v l=l++[(a,v)]
 |[],_=>rfl
 |(b,u)::l,h=>by
  unfold upd;rw[if_neg (λe=>h (by rw[e];simp)),CS (λh2=>h (by simp only[gL];exact cO _ h2))];rfl
def iN:List ByteArray:=[⟨⟨[99,101,108,108,115]⟩⟩,⟨⟨[114,111,119,115]⟩⟩,⟨⟨[99,111,108,117,109,110,115]⟩⟩,⟨⟨[100,105,97,103,111,110,97,108,115]⟩⟩,⟨⟨[97,114,111,117,110,100]⟩⟩,⟨⟨[110,101,97,114]⟩⟩,⟨⟨[112,97,105,114,115]⟩⟩,⟨⟨[97,108,108]⟩⟩]
def bX(d:bF):List ByteArray:=d.symbols.map (·.name)
def cz(d:bF):List ByteArray:=iN++d.regions.map (·.name)
def dO(d:bF):List ByteArray:=d.aJ.map (·.name)
def nL(d:bF):List ByteArray:=d.rules.map (·.name)
def gK(eH l:List ByteArray):Nat:=l.foldl (λm s=>m|||1<<<dZ s eH) 0
def lW(kE:List ByteArray)(c:gW):gW:={c with family:=(dZ c.on kE:Int)}
def mW(eH kE jg:List ByteArray)(r:bN):bN:=
 {r with family:=if r.on=⟨⟨[]⟩⟩then 0 else(dZ r.on kE:Int),aL:=if r.dS=⟨⟨[]⟩⟩then -1 else(dZ r.dS jg:Int),set:=(gK eH r.names:Int),other:=(gK eH r.others:Int)}
def bE(d:bF):bF:={d with aJ:=d.aJ.map (lW (cz d)),rules:=d.rules.map (mW (bX d) (cz d) (dO d))}
structure A7(eH kE jg:List ByteArray)(r:bN):Prop where
 on:r.on=⟨⟨[]⟩⟩\/r.on∈kE
 names:∀s∈r.names,s∈eH
 others:∀s∈r.others,s∈eH
 dS:r.dS=⟨⟨[]⟩⟩\/r.dS∈jg
structure CU(d:bF):Prop where
 eH:d.symbols.length<=16
 Ub:(bX d).Nodup
 Uc:(cz d).Nodup
 Ud:(dO d).Nodup
 Nf:∀c∈d.aJ,c.on∈cz d
 Ue:(nL d).Nodup
 rV:∀r∈d.rules,A7 (bX d) (cz d) (dO d) r
def jD{α:Type}(f:α->α)(k:Nat)(xs:List α):List α:=(xs.take k).map f++xs.drop k
theorem Uf{α:Type}(f:α->α)(xs:List α):jD f xs.length xs=xs.map f:=by simp[jD]
theorem zf{α:Type}(f:α->α)(k:Nat)(xs:List α):(jD f k xs).length=xs.length:=by simp[jD];omega
theorem Ug{α:Type}(f:α->α){k:Nat}{xs:List α}(hk:k<xs.length):(jD f k xs)[k]? =xs[k]?:=by
 unfold jD;rw[pR (by simp;omega),bY,gT,DF (by omega),vK,oO,zM]
theorem Uh{α:Type}(f:α->α){k:Nat}{xs:List α}{x:α}(hx:xs[k]? =some x):(jD f k xs).set k (f x)=jD f (k+1) xs:=by
 have hk:=(bq.1 hx).1;unfold jD;rw[Gl _ _ (by simp;omega),bY,gT,DF (by omega),vK];have hd:xs.drop k=x::xs.drop (k+1):=by
  rw[oU hk];congr 1;rw[bP hk]at hx;exact Option.some.inj hx
 rw[hd,nP,hx,fP];simp
end Kd
namespace Kd
open Go Go.Ideal
structure oH(s w h:Int)(holes:List Int):Prop where
 sh:s=1\/s=2
 wi:1<=w/\w<=16
 he:1<=h/\h<=16
 len:(holes.length:Int)<w*h
 inc:holes.Pairwise (·<·)
 mem:∀x∈holes,0<=x/\x<w*h
def gI(n:Nat)(holes:List Int):List Int:=((List.range n).map λi:Nat=>(i:Int)).filter λi=>!decide (i∈holes)
theorem Jd(n:Nat)(holes:List Int):gI (n+1) holes=gI n holes++if(n:Int)∈holes then[]else[(n:Int)]:=by
 unfold gI;rw[Gm,fP,Gi];congr 1;by_cases h:(n:Int)∈holes
 ·simp[h]
 ·simp[h]
theorem CW(n:Nat)(holes:List Int):(gI n holes).length<=n:=by
 unfold gI;refine pQ (PR _ _) ?_;simp
theorem Ui{n:Nat}{holes:List Int}{x:Int}(h:x∈gI n holes):0<=x/\x<n/\x∉holes:=by
 unfold gI at h;obtain⟨h1,h2⟩:=sP.1 h;obtain⟨i,hi,rfl⟩:=eT.1 h1;have:=ol.1 hi;exact⟨by omega,by omega,by simpa using h2⟩
theorem Je(n:Nat)(holes:List Int):(gI n holes).Pairwise (·<·):=by
 unfold gI;refine List.Pairwise.filter _ ?_;rw[wS];exact List.Pairwise.imp (λh=>by omega) List.pairwise_lt_range
def mX(w h:Int)(holes:List Int):List Int:=gI (w*h).toNat holes
theorem xQ{w h:Int}(hw:1<=w/\w<=16)(hh:1<=h/\h<=16):1<=w*h/\w*h<=256:=by
 have h1:1*1<=w*h:=Int.mul_le_mul hw.1 hh.1 (by omega) (by omega);have h2:w*h<=16*16:=Int.mul_le_mul hw.2 hh.2 (by omega) (by omega);omega
structure fE(g:bz):Prop where
 make:oH g.shape g.w g.h g.holes
 cells:g.cells=mX g.w g.h g.holes
theorem fE.cell{g:bz}(h:fE g):∀x∈g.cells,0<=x/\x<256:=by
 intro x hx;rw[h.cells]at hx;have h1:=Ui hx;have h2:=xQ h.make.wi h.make.he;omega
theorem fE.len{g:bz}(h:fE g):g.cells.length<=256:=by
 rw[h.cells];have h1:=CW (g.w*g.h).toNat g.holes;have h2:=xQ h.make.wi h.make.he;unfold mX;omega
def nM(g:bz)(pos:Int):Int×Int:=(if g.shape=2 then pos.tmod g.w - (pos.tdiv g.w).tdiv 2 else pos.tmod g.w,pos.tdiv g.w)
def bB(g:bz):List (Int×(Int×Int)):=g.cells.zipIdx.map λp=>((p.2:Int),nM g p.1)
theorem zg{g:bz}{k:Nat}{x:Int}(h:g.cells[k]? =some x):(bB g)[k]? =some ((k:Int),nM g x):=by
 unfold bB;rw[dm,List.getElem?_zipIdx,h];simp
theorem qK(g:bz):(bB g).length=g.cells.length:=by simp[bB]
theorem Uj{a b:List Int}(h:a.Perm b):bW a=bW b:=by
 have h1:(bW a).Perm (bW b):=(zT a _).trans (h.trans (zT b _).symm);have s1:(bW a).Pairwise (λx y=>x<=y):=by
  have:=XL (le:=λx y:Int=>decide (x<=y)) (λa b c h1 h2=>by simp at h1 h2⊢;omega) (λa b=>by simp;omega) a;exact this.imp (λh=>by simpa using h)
 have s2:(bW b).Pairwise (λx y=>x<=y):=by
  have:=XL (le:=λx y:Int=>decide (x<=y)) (λa b c h1 h2=>by simp at h1 h2⊢;omega) (λa b=>by simp;omega) b;exact this.imp (λh=>by simpa using h)
 generalize bW a=u at h1 s1;generalize bW b=v at h1 s2;clear h;induction u generalizing v with
 |nil=>exact(List.nil_perm.1 h1).symm▸rfl
 |cons x u ih=>
  cases v with
  |nil=>exact absurd h1.length_eq (by simp)
  |cons y v=>
   have hxy:x=y:=by
    have hx:x∈y::v:=h1.mem_iff.1 (cB ..);have hy:y∈x::u:=h1.mem_iff.2 (cB ..);rcases dx.1 hx with e|hx
    ·exact e
    rcases dx.1 hy with e|hy
    ·exact e.symm
    have:=(qx.1 s1).1 y hy;have:=(qx.1 s2).1 x hx;omega
   subst hxy;rw[ih (qx.1 s1).2 v ((List.perm_cons x).1 h1) (qx.1 s2).2]
def eO:List (Int×Int):=[(1,0),(-1,0),(0,1),(0, -1),(1, -1),(-1,1)]
def dV(g:bz):Nat:=if g.shape=1 then 4 else 6
def fC(xs:List (Int×(Int×Int))):List ((Int×Int)×Value):=xs.foldl (λm p=>upd p.2 (.int .i64 p.1) m) []
theorem Ng(xs:List (Int×(Int×Int)))(p:Int×(Int×Int)):fC (xs++[p])=upd p.2 (.int .i64 p.1) (fC xs):=by
 unfold fC;rw[DI];rfl
theorem Uk{xs:List (Int×(Int×Int))}:∀a v,dR a (fC xs)=some v->∃c,v=.int .i64 c/\∃p∈xs,p.1=c:=by
 have hup:∀(m:List ((Int×Int)×Value)) (b:Int×Int) (u:Value) (a:Int×Int) (v:Value),dR a (upd b u m)=some v->(a=b/\v=u)\/dR a m=some v:=by
  intro m;induction m with
  |nil=>
   intro b u a v h;have h:(if a=b then some u else none)=some v:=h;by_cases e:a=b
   ·rw[if_pos e]at h;exact .inl ⟨e,(Option.some.inj h).symm⟩
   ·rw[if_neg e]at h;cases h
  |cons q m ih=>
   intro b u a v h;obtain⟨k,w⟩:=q;unfold upd at h;by_cases e:b=k
   ·rw[if_pos e,xO]at h;by_cases e2:a=b
    ·rw[if_pos e2]at h;exact .inl ⟨e2,(Option.some.inj h).symm⟩
    ·rw[if_neg e2]at h;right;rw[xO,if_neg (λe3=>e2 (e3.trans e.symm))];exact h
   ·rw[if_neg e,xO]at h;by_cases e2:a=k
    ·rw[if_pos e2]at h;right;rw[xO,if_pos e2];exact h
    ·rw[if_neg e2]at h;rcases ih b u a v h with h|h
     ·exact .inl h
     ·right;rw[xO,if_neg e2];exact h
 unfold fC;have:∀(xs:List (Int×(Int×Int))) (m:List ((Int×Int)×Value)) a v,dR a (xs.foldl (λm p=>upd p.2 (.int .i64 p.1) m) m)=some v->(∃c,v=.int .i64 c/\∃p∈xs,p.1=c)\/dR a m=some v:=by
  intro xs;induction xs with
  |nil=>intro m a v h;exact .inr h
  |cons p xs ih=>
   intro m a v h;rw[wO]at h;rcases ih _ a v h with⟨c,h1,q,hq,h2⟩|h
   ·exact .inl ⟨c,h1,q,cO _ hq,h2⟩
   ·rcases hup m p.2 _ a v h with⟨_,h1⟩|h
    ·exact .inl ⟨p.1,h1,p,cB ..,rfl⟩
    ·exact .inr h
 intro a v h;rcases this xs [] a v h with h|h
 ·exact h
 ·cases h
def numOf:Option Value->Option Int
 |some (.int .i64 n)=>some n
 |_=>none
def gu(m:List ((Int×Int)×Value))(s:Int×Int)(ds:List (Int×Int)):List Int:=ds.filterMap λd=>numOf (dR (s.1+d.1,s.2+d.2) m)
theorem adM(m:List ((Int×Int)×Value))(s:Int×Int)(ds:List (Int×Int))(d:Int×Int):gu m s (ds++[d])=gu m s ds++(numOf (dR (s.1+d.1,s.2+d.2) m)).toList:=by
 unfold gu;rw[List.filterMap_append];congr 1
theorem Jf(m:List ((Int×Int)×Value))(s:Int×Int)(ds:List (Int×Int)):(gu m s ds).length<=ds.length:=List.length_filterMap_le _ _
def lX(g:bz)(p:Int×(Int×Int)):List Int:=bW (gu (fC (bB g)) p.2 (eO.take (dV g)))
def bJ(g:bz):List (List Int):=(bB g).map (lX g)
theorem Jg{g:bz}(h:fE g):∀p∈bB g,(0<=p.1/\p.1<256)/\(-256<=p.2.1/\p.2.1<256)/\(0<=p.2.2/\p.2.2<256):=by
 intro p hp;obtain⟨k,hk⟩:=uy.1 hp;have hkl:=(bq.1 hk).1;rw[qK]at hkl;have hx:g.cells[k]? =some g.cells[k]:=bP hkl;rw[zg hx]at hk;cases hk;have hb:=h.cell _ (aZ hx);have hl:=h.len;generalize g.cells[k]=x at hb;have hw:=h.make.wi;have hq:0<=x.tdiv g.w/\x.tdiv g.w<=x:=by
  rw[uz hb.1];exact⟨Ko hb.1 (by omega),Int.ediv_le_self _ hb.1⟩
 have hr:0<=x.tmod g.w/\x.tmod g.w<=x:=by
  rw[DJ hb.1];refine⟨Int.emod_nonneg _ (by omega),?_⟩;have:=PS x g.w;have h3:0<=g.w*(x/g.w):=Int.mul_nonneg (by omega) (Ko hb.1 (by omega));omega
 have hq2:0<=(x.tdiv g.w).tdiv 2/\(x.tdiv g.w).tdiv 2<=x.tdiv g.w:=by
  rw[uz hq.1];omega
 unfold nM;dsimp only;refine⟨by omega,?_,by omega⟩;split<;>omega
def Nh:Enc (Int×Int):=⟨2,Unit,λx _=>[.int .i64 x.1,.int .i64 x.2],λ_ _=>[],λ_ _=>rfl⟩
abbrev CY:List Value:=[.int .i64 1,.int .i64 0,.int .i64 (-1),.int .i64 0,.int .i64 0,.int .i64 1,.int .i64 0,.int .i64 (-1),.int .i64 1,.int .i64 (-1),.int .i64 (-1),.int .i64 1]
theorem adN{w:Wd}{b m:Nat}(h:(gY b 0 CY).p w)(hm:m<=6):(ai Nh (.slice (some ⟨b,0,some 0⟩) m 6) (eO.take m)).p w:=by
 obtain⟨cells,h1,h2⟩:=h;have hl:(eO.take m).length=m:=by rw[gT];show min m 6=m;omega
 refine .inr ⟨b,0,0,6,cells,⟨by rw[hl],by rw[hl];exact hm,.inl rfl⟩,h1,λk x hk=>⟨(),λj u hj=>?_,λf hf=>by cases hf⟩⟩;have hk':eO[k]? =some x:=by
  rw[sK]at hk;split at hk
  ·exact hk
  ·cases hk
 have:=h2 (k*2+j) u (vZ (E:=Nh) (aC:=eO.map λd=>(d,())) (k:=k) (p:=(x,())) (by rw[dm,hk'];rfl) hj);show cells[0+k*2+j]? =_;rw[show 0+k*2+j=0+(k*2+j)by omega];exact this
theorem adO:∀d∈eO,(-1<=d.1/\d.1<=1)/\(-1<=d.2/\d.2<=1):=by decide
theorem adP{j:Nat}{d:Int×Int}(h:eO[j]? =some d):jf (jH CY (j*2)) 2=some [.int .i64 d.1,.int .i64 d.2]:=by
 have hj:j<6:=(bq.1 h).1;match j,hj with
 |0,_=>cases h;rfl
 |1,_=>cases h;rfl
 |2,_=>cases h;rfl
 |3,_=>cases h;rfl
 |4,_=>cases h;rfl
 |5,_=>cases h;rfl
theorem bZ{α:Type}{xs:List α}{k:Nat}{x:α}(h:xs[k]? =some x):xs.take (k+1)=xs.take k++[x]:=by
 rw[nP,h];rfl
theorem A8(g:bz):dV g<=6:=by unfold dV;split<;>omega
theorem adQ{P:Program}{ρ:Operand->Value}{x hi:Operand}{n size b m:Nat}(hx:ρ x=.pointer (some ⟨b,0,none⟩))(hh:ρ hi=.int .i64 (m:Int))(hm:m<=n):Pu P ρ (.Kt n size x none (some hi) none) (.slice (some ⟨b,0,some 0⟩) m n):=λh=>by
 have hb:bounds? n n none (some (.int .i64 (m:Int))) none=some (0,m,n):=by
  show(match upTo n (.int .i64 (m:Int))with|none=>none|some hh=>_)=_;have:upTo n (.int .i64 (m:Int))=some m:=by
   show cond (Nat.ble m n) (some m) none=_;have:Nat.ble m n=true:=by rw[vH];exact hm
   rw[this];rfl
  rw[this]
 simp only[aF.run,hx,jm,hh,hb];show some (Value.slice (zY b (Nat.add 0 (Nat.mul 0 size))) (Nat.sub m 0) (Nat.sub n 0),h)=_;rw[show Nat.mul 0 size=0 from Gh _];rfl
theorem xR{g:bz}{k:Nat}{p:Int×(Int×Int)}(h:(bB g)[k]? =some p):p.1=(k:Int):=by
 have hk:=(bq.1 h).1;rw[qK]at hk;rw[zg (bP hk)]at h;cases h;rfl
theorem Jh{g:bz}{vs rest:List (Int×(Int×Int))}{x:Int×(Int×Int)}(h:vs++x::rest=bB g):x.1=(vs.length:Int)/\vs.length<g.cells.length/\x∈bB g:=by
 have h1:(bB g)[vs.length]? =some x:=by rw[<- h];simp
 refine⟨xR h1,?_,aZ h1⟩;have:=(bq.1 h1).1
 rwa [qK]at this
theorem Ul{A:List (List Int)}{n:Nat}(h:A.length<n)(y:List Int):(A++List.replicate (n - A.length) []).set A.length y=(A++[y])++List.replicate (n - (A.length+1)) []:=by
 rw[Gl _ _ (bT _),vK,show n - A.length=(n - (A.length+1))+1 by omega,Gg,List.set_cons_zero];simp
theorem adR{α:Type}{ws:List α}{k:Nat}{v:α}(h:ws[k]? =some v):ws.set k v=ws:=by
 apply iY;intro i;rw[oQ];by_cases e:k=i
 ·subst e;rw[if_pos rfl,if_pos (bq.1 h).1,h]
 ·rw[if_neg e]
theorem wm(g:bz):(bJ g).length=g.cells.length:=by
 unfold bJ;rw[bY,qK]
theorem adS(g:bz):(bB g).foldl (λ(xss:List (List Int)) (x:Int×(Int×Int))=>xss.set x.1.toNat (lX g x)) (List.replicate g.cells.length [])=bJ g:=by
 have key:∀(rest vs:List (Int×(Int×Int))),vs++rest=bB g->rest.foldl (λ(xss:List (List Int)) (x:Int×(Int×Int))=>xss.set x.1.toNat (lX g x)) (vs.map (lX g)++List.replicate (g.cells.length - vs.length) [])=bJ g:=by
  intro rest;induction rest with
  |nil=>
   intro vs h;rw[gU]at h;rw[List.foldl_nil,h,qK,vK,List.replicate_zero,gU];rfl
  |cons x rest ih=>
   intro vs h;have h1:=Jh h;rw[wO,h1.1,kJ];have h2:=Ul (A:=vs.map (lX g)) (n:=g.cells.length) (by rw[bY];exact h1.2.1) (lX g x);rw[bY]at h2;rw[h2];have h3:=ih (vs++[x]) (by rw[List.append_assoc];exact h);rw[fP,iH]at h3;exact h3
 have:=key (bB g) [] rfl;rw[List.map_nil,dY,Dx,Dz]at this;exact this
end Kd
namespace Kd
open Go Go.Ideal
theorem zh{α β:Type}[DecidableEq α](a b:α)(v:β):∀m:List (α×β),dR a (upd b v m)=if a=b then some v else dR a m
 |[]=>rfl
 |(k,w)::m=>by
  unfold upd;by_cases e:b=k
  ·rw[if_pos e,xO,xO];by_cases e2:a=b
   ·rw[if_pos e2,if_pos e2]
   ·rw[if_neg e2,if_neg e2,if_neg (λe3=>e2 (e3.trans e.symm))]
  ·rw[if_neg e,xO,xO,zh a b v m];by_cases e2:a=k
   ·rw[if_pos e2,if_pos e2,if_neg (λe3=>e (e3.symm.trans e2))]
   ·rw[if_neg e2,if_neg e2]
theorem Um{α β:Type}[DecidableEq α](b:α)(v:β):∀m:List (α×β),(upd b v m).length<=m.length+1
 |[]=>bT _
 |(k,w)::m=>by
  unfold upd;by_cases e:b=k
  ·rw[if_pos e,oP,oP];omega
  ·rw[if_neg e,oP,oP];have:=Um b v m;omega
def xS(kf:Int×Int->Int×Bool)(m:List (Int×List Int))(p:Int×(Int×Int)):List (Int×List Int):=
 cond (kf p.2).2 (upd (kf p.2).1 ((dR (kf p.2).1 m).getD []++[p.1]) m) m
def jN(kf:Int×Int->Int×Bool)(ps:List (Int×(Int×Int))):List (Int×List Int):=ps.foldl (xS kf) []
theorem Ji(kf:Int×Int->Int×Bool)(ps:List (Int×(Int×Int)))(p:Int×(Int×Int)):jN kf (ps++[p])=xS kf (jN kf ps) p:=by
 unfold jN;rw[DI];rfl
theorem Ni(kf:Int×Int->Int×Bool)(n:Nat):∀ps:List (Int×(Int×Int)),ps.length=n->(jN kf ps).length<=ps.length/\∀a,((dR a (jN kf ps)).getD []).length<=ps.length:=by
 induction n with
 |zero=>
  intro ps h;rw[jy.1 h];exact⟨bT _,λa=>bT _⟩
 |succ n ih=>
  intro ps h;obtain⟨qs,p,rfl⟩:∃qs p,ps=qs++[p]:=⟨ps.dropLast,ps.getLast (by intro e;rw[e]at h;cases h),(yF _).symm⟩
  have hq:qs.length=n:=by simpa using h
  obtain⟨h1,h2⟩:=ih qs hq;rw[Ji,iH,zS];unfold xS;cases (kf p.2).2 with
  |false=>exact⟨by show(jN kf qs).length<=_;omega,λa=>by have:=h2 a;show((dR a (jN kf qs)).getD []).length<=_;omega⟩
  |true=>
   refine⟨?_,λa=>?_⟩
   ·have:=Um (kf p.2).1 ((dR (kf p.2).1 (jN kf qs)).getD []++[p.1]) (jN kf qs);show(upd _ _ _).length<=_;omega
   ·show((dR a (upd _ _ _)).getD []).length<=_;rw[zh];by_cases e:a=(kf p.2).1
    ·rw[if_pos e,wQ,iH,zS];have:=h2 (kf p.2).1;omega
    ·rw[if_neg e];have:=h2 a;omega
def jd(g:bz)(kf:Int×Int->Int×Bool):List (List Int):=(bW ((jN kf (bB g)).map (·.1))).map λn=>(dR n (jN kf (bB g))).getD []
theorem Nj{g:bz}(hg:fE g)(kf:Int×Int->Int×Bool):(jd g kf).length<=256/\∀l∈jd g kf,l.length<=256:=by
 have h:=Ni kf _ (bB g) rfl;have hl:=hg.len;rw[qK]at h;unfold jd;refine⟨?_,λl hl2=>?_⟩
 ·rw[bY];have:(bW ((jN kf (bB g)).map (·.1))).length=((jN kf (bB g)).map (·.1)).length:=(zT _ _).length_eq;rw[this,bY];omega
 ·obtain⟨n,_,rfl⟩:=eT.1 hl2;have:=h.2 n;omega
def uf(acc:List (List Int))(l:List Int):List (List Int):=if acc.head? =some l then acc else acc++[l]
def jO(a b:List (List Int)):List (List Int):=b.foldl uf a
theorem Un{a b:List (List Int)}{k:Nat}{l:List Int}(h:b[k]? =some l):jO a (b.take (k+1))=uf (jO a (b.take k)) l:=by
 unfold jO;rw[bZ h,DI];rfl
theorem Uo{a b:List (List Int)}{n:Nat}(ha:∀l∈a,l.length<=n)(hb:∀l∈b,l.length<=n):∀k,(jO a (b.take k)).length<=a.length+k/\∀l∈jO a (b.take k),l.length<=n
 |0=>⟨bT _,ha⟩
 |k+1=>by
  obtain⟨h1,h2⟩:=Uo ha hb k;cases h:b[k]? with
  |none=>
   have:b.take (k+1)=b.take k:=by rw[nP,h];simp
   rw[this];exact⟨by omega,h2⟩
  |some l=>
   rw[Un h];unfold uf;split
   ·exact⟨by omega,h2⟩
   ·rw[iH,zS];refine⟨by omega,λx hx=>?_⟩;rcases dX.1 hx with hx|hx
    ·exact h2 x hx
    ·rw[bM.1 hx];exact hb l (aZ h)
def lY(g:bz):List (List Int):=
 if g.shape=2 then jd g (λs=>(s.1+s.2,true))
 else if g.w=g.h then jO (jd g (λs=>(0,decide (s.1=s.2)))) (jd g (λs=>(0,decide (s.1+s.2=g.w - 1))))
 else[]
theorem uU{l:List Int}{x:Int}:x∈bW l↔x∈l:=(zT l _).mem_iff
theorem adT:∀a c:Int,Value.int .i64 a=Value.int .i64 c->a=c:=λa c h=>by injection h
def kW(n:Nat):List (List Int):=(List.range n).map λi:Nat=>[(i:Int)]
theorem Uq(k:Nat):kW (k+1)=kW k++[[(k:Int)]]:=by
 unfold kW;rw[Gm,fP];rfl
theorem Jj(k:Nat):(kW k).length=k:=by unfold kW;simp
def upTo'(n:Nat):List Int:=(List.range n).map λi:Nat=>(i:Int)
theorem wo(k:Nat):upTo' (k+1)=upTo' k++[(k:Int)]:=by
 unfold upTo';rw[Gm,fP];rfl
theorem lZ(k:Nat):(upTo' k).length=k:=by unfold upTo';simp
def l5(aQ:List (List Int)):List (List Int):=aQ.zipIdx.map λp=>bW (p.1++[(p.2:Int)])
theorem Ur{aQ:List (List Int)}{k:Nat}{l:List Int}(h:aQ[k]? =some l):l5 (aQ.take (k+1))=l5 (aQ.take k)++[bW (l++[(k:Int)])]:=by
 have hk:=(bq.1 h).1;unfold l5;rw[bZ h,PP,fP,gT,DF (by omega)];simp
theorem Nk(aQ:List (List Int)):(l5 aQ).length=aQ.length:=by unfold l5;simp
def jh(i:Nat)(l:List Int):List (List Int):=(l.filter λj=>decide ((i:Int)<j)).map λj=>[(i:Int),j]
theorem Us{i j:Nat}{l:List Int}{x:Int}(h:l[j]? =some x):jh i (l.take (j+1))=jh i (l.take j)++if(i:Int)<x then[[(i:Int),x]]else[]:=by
 unfold jh;rw[bZ h,Gi,fP];by_cases e:(i:Int)<x<;>simp[e]
theorem Nl(i:Nat)(l:List Int):(jh i l).length<=l.length:=by
 unfold jh;rw[bY];exact PR _ _
def ik(aQ:List (List Int)):List (List Int):=aQ.zipIdx.flatMap λp=>jh p.2 p.1
theorem Nn{aQ:List (List Int)}{k:Nat}{l:List Int}(h:aQ[k]? =some l):ik (aQ.take (k+1))=ik (aQ.take k)++jh k l:=by
 have hk:=(bq.1 h).1;unfold ik;rw[bZ h,PP,List.flatMap_append,gT,DF (by omega)];simp
theorem Np{aQ:List (List Int)}(hn:∀l∈aQ,l.length<=6):∀k,k<=aQ.length->(ik (aQ.take k)).length<=6*k
 |0,_=>by simp[ik]
 |k+1,hk=>by
  have h:aQ[k]? =some aQ[k]:=bP (by omega);have:=Np hn k (by omega);have h2:=Nl k aQ[k];have h3:=hn aQ[k] (vF _);rw[Nn h,iH];omega
theorem Nq{g:bz}:∀l∈bJ g,l.length<=6:=by
 intro l hl;obtain⟨p,_,rfl⟩:=eT.1 hl;unfold lX;have h1:(bW (gu (fC (bB g)) p.2 (eO.take (dV g)))).length=(gu (fC (bB g)) p.2 (eO.take (dV g))).length:=(zT _ _).length_eq;have h2:=Jf (fC (bB g)) p.2 (eO.take (dV g));have h3:=A8 g;rw[gT]at h2;omega
def dM(g:bz)(k:Int):List (List Int):=
 if k=0 then kW g.cells.length
 else if k=1 then jd g (λs=>(s.2,true))
 else if k=2 then jd g (λs=>(s.1,true))
 else if k=3 then lY g
 else if k=4 then bJ g
 else if k=5 then l5 (bJ g)
 else if k=6 then ik (bJ g)
 else[upTo' g.cells.length]
end Kd
namespace Kd
open Go Go.Ideal
def ww(p:Int):List Int->Nat
 |[]=>0
 |a::l=>if p=a then 0 else ww p l+1
theorem Jk{p:Int}:∀{l:List Int} {n:Nat},l.Pairwise (·<·)->l[n]? =some p->ww p l=n
 |[],n,_,h=>by simp at h
 |a::l,0,_,h=>by
  have h:a=p:=by simpa using h
  unfold ww;rw[if_pos h.symm]
 |a::l,n+1,hp,h=>by
  have h:l[n]? =some p:=by simpa using h
  have h1:=(qx.1 hp).1 p (aZ h);unfold ww;rw[if_neg (by omega),Jk (qx.1 hp).2 h]
theorem Nr{p:Int}:∀{l:List Int},p∈l->ww p l<l.length
 |[],h=>by cases h
 |a::l,h=>by
  unfold ww;by_cases e:p=a
  ·rw[if_pos e,oP];omega
  ·rw[if_neg e,oP];have:=Nr (p:=p) (l:=l) ((dx.1 h).resolve_left e);omega
def zi(xs:List Int):List (Int×Value):=xs.foldl (λm c=>upd c (.bool true) m) []
theorem Ut(xs:List Int)(c:Int):zi (xs++[c])=upd c (.bool true) (zi xs):=by
 unfold zi;rw[DI];rfl
theorem adU(c:Int)(n:Nat):∀xs:List Int,xs.length=n->dR c (zi xs)=if c∈xs then some (.bool true)else none:=by
 induction n with
 |zero=>
  intro xs h;rw[jy.1 h];rfl
 |succ n ih=>
  intro xs h;obtain⟨ys,p,rfl⟩:∃ys p,xs=ys++[p]:=⟨xs.dropLast,xs.getLast (by intro e;rw[e]at h;cases h),(yF _).symm⟩
  rw[Ut,zh,ih ys (by simpa using h)];by_cases e:c=p
  ·subst e;simp
  ·simp[e]
theorem adV(c:Int)(xs:List Int):kT false (.bool false) c (zi xs)=.bool (decide (c∈xs)):=by
 unfold kT;rw[adU c _ xs rfl];by_cases e:c∈xs
 ·rw[if_pos e,dK e];rfl
 ·rw[if_neg e,aR e];rfl
theorem Uu:∀(m:Nat) (l:List Int),l.Nodup->(∀x∈l,0<=x/\x<(m:Int))->l.length<=m:=by
 intro m;induction m with
 |zero=>
  intro l _ h;cases l with
  |nil=>exact bT _
  |cons x l=>have:=h x (cB ..);omega
 |succ m ih=>
  intro l hn h;have h1:=ih (l.erase (m:Int)) (hn.erase _) (λx hx=>by
   have:=h x (List.mem_of_mem_erase hx);have hne:x≠(m:Int):=λe=>by subst e;exact(List.Nodup.mem_erase_iff hn).1 hx|>.1 rfl
   omega)
  rw[List.length_erase]at h1;split at h1<;>omega
structure zk(g:bz)(ps:List Int):Prop where
 ne:ps≠[]
 mem:∀p∈ps,p∈g.cells
 nd:(ps.map λp=>(ww p g.cells:Int)).Nodup
structure CZ(g:bz)(rs:List (List Int)):Prop where
 len:rs.length<=64
 all:∀ps∈rs,zk g ps
def eZ(g:bz)(ps:List Int):List Int:=ps.map λp=>(ww p g.cells:Int)
def dW(g:bz)(rs:List (List Int)):List (List Int):=rs.map (eZ g)
theorem Jl{g:bz}{ps:List Int}(hm:∀p∈ps,p∈g.cells)(hn:(eZ g ps).Nodup):ps.length<=g.cells.length:=by
 have:=Uu g.cells.length (eZ g ps) hn (λx hx=>by
  obtain⟨p,hp,rfl⟩:=eT.1 hx;have:=Nr (hm p hp);omega)
 unfold eZ at this
 rwa [bY]at this
end Kd
namespace Kd
open Go Go.Ideal
def uV(xs:List Int):List (Int×Value):=(xs.foldl (λs c=>(upd c (.int .i64 ((s.2.count c:Nat)+1)) s.1,s.2++[c])) (([]:List (Int×Value)),([]:List Int))).1
theorem adW(xs:List Int):∀(m:List (Int×Value)) (ys:List Int),(xs.foldl (λs c=>(upd c (.int .i64 ((s.2.count c:Nat)+1)) s.1,s.2++[c])) (m,ys)).2=ys++xs:=by
 induction xs with
 |nil=>intro m ys;simp
 |cons x xs ih=>intro m ys;rw[wO,ih];simp
theorem Uv(xs:List Int)(c:Int):uV (xs++[c])=upd c (.int .i64 ((xs.count c:Nat)+1)) (uV xs):=by
 unfold uV;rw[DI,wO,List.foldl_nil];show upd c _ _=_;rw[adW,dY]
theorem adX(c:Int)(n:Nat):∀xs:List Int,xs.length=n->dR c (uV xs)=if c∈xs then some (.int .i64 (xs.count c:Nat))else none:=by
 induction n with
 |zero=>
  intro xs h;rw[jy.1 h];rfl
 |succ n ih=>
  intro xs h;obtain⟨ys,p,rfl⟩:∃ys p,xs=ys++[p]:=⟨xs.dropLast,xs.getLast (by intro e;rw[e]at h;cases h),(yF _).symm⟩
  rw[Uv,zh,ih ys (by simpa using h)];by_cases e:c=p
  ·subst e;simp
  ·have e2:¬p=c:=λh=>e h.symm;simp[e,e2,List.count_cons,List.count_append]
theorem Uw(c:Int)(xs:List Int):kT false (.int .i64 0) c (uV xs)=.int .i64 (xs.count c:Nat):=by
 unfold kT;rw[adX c _ xs rfl];by_cases e:c∈xs
 ·rw[if_pos e];rfl
 ·rw[if_neg e,List.count_eq_zero_of_not_mem e];rfl
theorem Ux(c:Int)(xs:List Int):xs.count c<=xs.length:=List.count_le_length ..
def aT(d:bF):bz:=⟨d.shape,d.w,d.h,d.holes,mX d.w d.h d.holes⟩
def oI(d:bF):List (List (List Int)):=((List.range 8).map λf:Nat=>dM (aT d) (f:Int))++d.regions.map λr=>dW (aT d) r.lists
def kF(d:bF):bD:=⟨d,aT d,bJ (aT d),oI d⟩
