/-
  Part PlainBR.
-/
import Derived.Test.YtpkieeggilkagaaGreatIdealNR
set_option linter.all false
namespace Kd
open Go Go.Ideal
structure nM where
 name:ByteArray
 value:Int
 deriving DecidableEq
structure mQ where
 name:ByteArray
 lists:List (List Int)
 deriving DecidableEq
structure jo where
 name:ByteArray
 on:ByteArray
 family:Int
 type:Int
 lo:Int
 hi:Int
 deriving DecidableEq
structure bB where
 name:ByteArray
 on:ByteArray
 kind:Int
 family:Int
 names:List ByteArray
 others:List ByteArray
 set:Int
 other:Int
 op:Int
 n:Int
 dn:ByteArray
 aB:Int
 deriving DecidableEq
structure bG where
 name:ByteArray
 version:Int
 shape:Int
 w:Int
 h:Int
 holes:List Int
 symbols:List nM
 regions:List mQ
 aM:List jo
 rules:List bB
 deriving DecidableEq
structure bD where
 shape:Int
 w:Int
 h:Int
 holes:List Int
 cells:List Int
 deriving DecidableEq
structure bR where
 decl:bG
 grid:bD
 aN:List (List Int)
 lists:List (List (List Int))
 deriving DecidableEq
def fo:Enc nM:=⟨2,Unit,λx _=>[.string x.name,.int .i64 x.value],λ_ _=>[],λ_ _=>rfl⟩
def fA:Enc mQ:=⟨2,Value,λx v=>[.string x.name,v],λx v=>[ah (ax aa) v x.lists],λ_ _=>rfl⟩
def bI:Enc jo:=⟨6,Unit,λx _=>[.string x.name,.string x.on,.int .i64 x.family,.int .i64 x.type,.int .i64 x.lo,.int .i64 x.hi],λ_ _=>[],λ_ _=>rfl⟩
abbrev gY(x:bB)(v1 v2:Value):List Value:=[.string x.name,.string x.on,.int .i64 x.kind,.int .i64 x.family,v1,v2,.int .i64 x.set,.int .i64 x.other,.int .i64 x.op,.int .i64 x.n,.string x.dn,.int .i64 x.aB]
def aZ:Enc bB:=⟨12,Value×Value,λx v=>gY x v.1 v.2,λx v=>[ah bF v.1 x.names,ah bF v.2 x.others],λ_ _=>rfl⟩
abbrev gI(d:bG)(vh vs vr vc vu:Value):List Value:=[.string d.name,.int .i64 d.version,.int .i64 d.shape,.int .i64 d.w,.int .i64 d.h,vh,vs,vr,vc,vu]
abbrev mi(d:bG)(vh vs vr vc vu:Value):List aL:=[ah aa vh d.holes,ah fo vs d.symbols,ah fA vr d.regions,ah bI vc d.aM,ah aZ vu d.rules]
def dY(s:ByteArray):List ByteArray->Nat
 |[]=>0
 |a::l=>if s=a then 0 else dY s l+1
theorem xB{s:ByteArray}:∀{l:List ByteArray},s∈l->dY s l<l.length
 |[],h=>by cases h
 |a::l,h=>by
  unfold dY;split
  ·simp
  ·rename_i hne;have:=xB ((dG.1 h).resolve_left hne);simp;omega
def fE(names:List ByteArray)(start:Nat):List (ByteArray×Value):=names.zipIdx.map λp=>(p.1,.int .i64 ((start+p.2:Nat):Int))
theorem Nq(a b:List ByteArray)(start:Nat):fE (a++b) start=fE a start++fE b (start+a.length):=by
 unfold fE;rw[DI,ed];congr 1;rw[show b.zipIdx (0+a.length)=(b.zipIdx 0).map (λp=>(p.1,p.2+a.length))by
  rw[fC];conv=>lhs;rw[show a.length=0+a.length by omega]
  rw[List.zipIdx_eq_map_add];apply Pw;rintro⟨s,i⟩ _;simp only;rw[show 0+a.length+i=i+a.length by omega]]
 rw[DJ];apply Pw;rintro⟨s,i⟩ _;simp only[Function.comp];rw[show start+(i+a.length)=start+a.length+i by omega]
theorem tK(names:List ByteArray)(start:Nat):(fE names start).map (·.1)=names:=by
 unfold fE;rw[DJ];have:((λp:ByteArray×Value=>p.1)∘λp:ByteArray×Nat=>(p.1,Value.int .i64 ((start+p.2:Nat):Int)))=Prod.fst:=rfl;rw[this,List.zipIdx_map_fst]
theorem xC{α β:Type}[DecidableEq α](a b:α)(v:β)(l:List (α×β)):dL a ((b,v)::l)=if a=b then some v else dL a l:=rfl
theorem rQ{α β:Type}[DecidableEq α]{a:α}:∀{l:List (α×β)},a∉l.map (·.1)->dL a l=none
 |[],_=>rfl
 |(b,v)::l,h=>by
  unfold dL;rw[if_neg (λe=>h (by rw[e];simp)),rQ (λh2=>h (by simp only[ik];exact dN _ h2))]
theorem Fs{α β:Type}[DecidableEq α]{a:α}:∀{l:List (α×β)},a∈l.map (·.1)->∃v,dL a l=some v
 |[],h=>by cases h
 |(b,v)::l,h=>by
  unfold dL;by_cases e:a=b
  ·exact⟨v,by rw[if_pos e]⟩
  ·obtain⟨u,hu⟩:=Fs (l:=l) ((dG.1 h).resolve_left e);exact⟨u,by rw[if_neg e,hu]⟩
theorem xD{s:ByteArray}:∀{names:List ByteArray} {start:Nat},s∈names->dL s (fE names start)=some (.int .i64 ((start+dY s names:Nat):Int))
 |[],start,h=>by cases h
 |a::l,start,h=>by
  have e:fE (a::l) start=(a,.int .i64 ((start:Nat):Int))::fE l (start+1):=by
   have:=Nq [a] l start;simpa[fE]using this
  rw[e];unfold dL dY;by_cases hs:s=a
  ·rw[if_pos hs,if_pos hs];rfl
  ·rw[if_neg hs,if_neg hs,xD ((dG.1 h).resolve_left hs),show start+1+dY s l=start+(dY s l+1)by omega]
theorem CQ{α β:Type}[DecidableEq α]{a:α}{v:β}:∀{l:List (α×β)},a∉l.map (·.1)->upd a v l=l++[(a,v)]
 |[],_=>rfl
 |(b,u)::l,h=>by
  unfold upd;rw[if_neg (λe=>h (by rw[e];simp)),CQ (λh2=>h (by simp only[ik];exact dN _ h2))];rfl
def iQ:List ByteArray:=[⟨⟨[99,101,108,108,115]⟩⟩,⟨⟨[114,111,119,115]⟩⟩,⟨⟨[99,111,108,117,109,110,115]⟩⟩,⟨⟨[100,105,97,103,111,110,97,108,115]⟩⟩,⟨⟨[97,114,111,117,110,100]⟩⟩,⟨⟨[110,101,97,114]⟩⟩,⟨⟨[112,97,105,114,115]⟩⟩,⟨⟨[97,108,108]⟩⟩]
def bP(d:bG):List ByteArray:=d.symbols.map (·.name)
def bX(d:bG):List ByteArray:=iQ++d.regions.map (·.name)
def dM(d:bG):List ByteArray:=d.aM.map (·.name)
def nN(d:bG):List ByteArray:=d.rules.map (·.name)
def fO(cZ l:List ByteArray):Nat:=l.foldl (λm s=>m|||1<<<dY s cZ) 0
def lW(lX:List ByteArray)(c:jo):jo:={c with family:=(dY c.on lX:Int)}
def mR(cZ lX jB:List ByteArray)(r:bB):bB:=
 {r with family:=if r.on=⟨⟨[]⟩⟩then 0 else(dY r.on lX:Int),aB:=if r.dn=⟨⟨[]⟩⟩then -1 else(dY r.dn jB:Int),set:=(fO cZ r.names:Int),other:=(fO cZ r.others:Int)}
def bH(d:bG):bG:={d with aM:=d.aM.map (lW (bX d)),rules:=d.rules.map (mR (bP d) (bX d) (dM d))}
structure AB(cZ lX jB:List ByteArray)(r:bB):Prop where
 on:r.on=⟨⟨[]⟩⟩\/r.on∈lX
 names:∀s∈r.names,s∈cZ
 others:∀s∈r.others,s∈cZ
 dn:r.dn=⟨⟨[]⟩⟩\/r.dn∈jB
structure CR(d:bG):Prop where
 cZ:d.symbols.length<=16
 TK:(bP d).Nodup
 TL:(bX d).Nodup
 TM:(dM d).Nodup
 Nr:∀c∈d.aM,c.on∈bX d
 TN:(nN d).Nodup
 tL:∀r∈d.rules,AB (bP d) (bX d) (dM d) r
def jI{α:Type}(f:α->α)(k:Nat)(xs:List α):List α:=(xs.take k).map f++xs.drop k
theorem TP{α:Type}(f:α->α)(xs:List α):jI f xs.length xs=xs.map f:=by simp[jI]
theorem y9{α:Type}(f:α->α)(k:Nat)(xs:List α):(jI f k xs).length=xs.length:=by simp[jI];omega
theorem TQ{α:Type}(f:α->α){k:Nat}{xs:List α}(hk:k<xs.length):(jI f k xs)[k]? =xs[k]?:=by
 unfold jI;rw[uZ (by simp;omega),dV,gL,zF (by omega),BB,qX,Bv]
theorem TR{α:Type}(f:α->α){k:Nat}{xs:List α}{x:α}(hx:xs[k]? =some x):(jI f k xs).set k (f x)=jI f (k+1) xs:=by
 have hk:=(bK.1 hx).1;unfold jI;rw[List.set_append_right _ _ (by simp;omega),dV,gL,zF (by omega),BB];have hd:xs.drop k=x::xs.drop (k+1):=by
  rw[nR hk];congr 1;rw[bN hk]at hx;exact Option.some.inj hx
 rw[hd,nS,hx,ed];simp
end Kd
namespace Kd
open Go Go.Ideal
structure oM(s w h:Int)(holes:List Int):Prop where
 sh:s=1\/s=2
 wi:1<=w/\w<=16
 he:1<=h/\h<=16
 len:(holes.length:Int)<w*h
 inc:holes.Pairwise (·<·)
 mem:∀x∈holes,0<=x/\x<w*h
def gJ(n:Nat)(holes:List Int):List Int:=((List.range n).map λi:Nat=>(i:Int)).filter λi=>!decide (i∈holes)
theorem Jf(n:Nat)(holes:List Int):gJ (n+1) holes=gJ n holes++if(n:Int)∈holes then[]else[(n:Int)]:=by
 unfold gJ;rw[Gj,ed,uk];congr 1;by_cases h:(n:Int)∈holes
 ·simp[h]
 ·simp[h]
theorem CS(n:Nat)(holes:List Int):(gJ n holes).length<=n:=by
 unfold gJ;refine oU (DK _ _) ?_;simp
theorem TS{n:Nat}{holes:List Int}{x:Int}(h:x∈gJ n holes):0<=x/\x<n/\x∉holes:=by
 unfold gJ at h;obtain⟨h1,h2⟩:=pI.1 h;obtain⟨i,hi,rfl⟩:=eT.1 h1;have:=uf.1 hi;exact⟨by omega,by omega,by simpa using h2⟩
theorem Ns(n:Nat)(holes:List Int):(gJ n holes).Pairwise (·<·):=by
 unfold gJ;refine List.Pairwise.filter _ ?_;rw[BC];exact List.Pairwise.imp (λh=>by omega) List.pairwise_lt_range
def mU(w h:Int)(holes:List Int):List Int:=gJ (w*h).toNat holes
theorem xE{w h:Int}(hw:1<=w/\w<=16)(hh:1<=h/\h<=16):1<=w*h/\w*h<=256:=by
 have h1:1*1<=w*h:=Int.mul_le_mul hw.1 hh.1 (by omega) (by omega);have h2:w*h<=16*16:=Int.mul_le_mul hw.2 hh.2 (by omega) (by omega);omega
structure fH(g:bD):Prop where
 make:oM g.shape g.w g.h g.holes
 cells:g.cells=mU g.w g.h g.holes
theorem fH.cell{g:bD}(h:fH g):∀x∈g.cells,0<=x/\x<256:=by
 intro x hx;rw[h.cells]at hx;have h1:=TS hx;have h2:=xE h.make.wi h.make.he;omega
theorem fH.len{g:bD}(h:fH g):g.cells.length<=256:=by
 rw[h.cells];have h1:=CS (g.w*g.h).toNat g.holes;have h2:=xE h.make.wi h.make.he;unfold mU;omega
def nO(g:bD)(pos:Int):Int×Int:=(if g.shape=2 then pos.tmod g.w - (pos.tdiv g.w).tdiv 2 else pos.tmod g.w,pos.tdiv g.w)
def bE(g:bD):List (Int×(Int×Int)):=g.cells.zipIdx.map λp=>((p.2:Int),nO g p.1)
theorem xG{g:bD}{k:Nat}{x:Int}(h:g.cells[k]? =some x):(bE g)[k]? =some ((k:Int),nO g x):=by
 unfold bE;rw[fw,List.getElem?_zipIdx,h];simp
theorem qa(g:bD):(bE g).length=g.cells.length:=by simp[bE]
theorem TT{a b:List Int}(h:a.Perm b):dD a=dD b:=by
 have h1:(dD a).Perm (dD b):=(BD a _).trans (h.trans (BD b _).symm);have s1:(dD a).Pairwise (λx y=>x<=y):=by
  have:=Xa (le:=λx y:Int=>decide (x<=y)) (λa b c h1 h2=>by simp at h1 h2⊢;omega) (λa b=>by simp;omega) a;exact this.imp (λh=>by simpa using h)
 have s2:(dD b).Pairwise (λx y=>x<=y):=by
  have:=Xa (le:=λx y:Int=>decide (x<=y)) (λa b c h1 h2=>by simp at h1 h2⊢;omega) (λa b=>by simp;omega) b;exact this.imp (λh=>by simpa using h)
 generalize dD a=u at h1 s1;generalize dD b=v at h1 s2;clear h;induction u generalizing v with
 |nil=>exact(List.nil_perm.1 h1).symm▸rfl
 |cons x u ih=>
  cases v with
  |nil=>exact absurd h1.length_eq (by simp)
  |cons y v=>
   have hxy:x=y:=by
    have hx:x∈y::v:=h1.mem_iff.1 (dJ ..);have hy:y∈x::u:=h1.mem_iff.2 (dJ ..);rcases dG.1 hx with e|hx
    ·exact e
    rcases dG.1 hy with e|hy
    ·exact e.symm
    have:=(rq.1 s1).1 y hy;have:=(rq.1 s2).1 x hx;omega
   subst hxy;rw[ih (rq.1 s1).2 v ((List.perm_cons x).1 h1) (rq.1 s2).2]
def eP:List (Int×Int):=[(1,0),(-1,0),(0,1),(0, -1),(1, -1),(-1,1)]
def dS(g:bD):Nat:=if g.shape=1 then 4 else 6
def fB(xs:List (Int×(Int×Int))):List ((Int×Int)×Value):=xs.foldl (λm p=>upd p.2 (.int .i64 p.1) m) []
theorem Nt(xs:List (Int×(Int×Int)))(p:Int×(Int×Int)):fB (xs++[p])=upd p.2 (.int .i64 p.1) (fB xs):=by
 unfold fB;rw[BF];rfl
theorem TU{xs:List (Int×(Int×Int))}:∀a v,dL a (fB xs)=some v->∃c,v=.int .i64 c/\∃p∈xs,p.1=c:=by
 have hup:∀(m:List ((Int×Int)×Value)) (b:Int×Int) (u:Value) (a:Int×Int) (v:Value),dL a (upd b u m)=some v->(a=b/\v=u)\/dL a m=some v:=by
  intro m;induction m with
  |nil=>
   intro b u a v h;have h:(if a=b then some u else none)=some v:=h;by_cases e:a=b
   ·rw[if_pos e]at h;exact .inl ⟨e,(Option.some.inj h).symm⟩
   ·rw[if_neg e]at h;cases h
  |cons q m ih=>
   intro b u a v h;obtain⟨k,w⟩:=q;unfold upd at h;by_cases e:b=k
   ·rw[if_pos e,xC]at h;by_cases e2:a=b
    ·rw[if_pos e2]at h;exact .inl ⟨e2,(Option.some.inj h).symm⟩
    ·rw[if_neg e2]at h;right;rw[xC,if_neg (λe3=>e2 (e3.trans e.symm))];exact h
   ·rw[if_neg e,xC]at h;by_cases e2:a=k
    ·rw[if_pos e2]at h;right;rw[xC,if_pos e2];exact h
    ·rw[if_neg e2]at h;rcases ih b u a v h with h|h
     ·exact .inl h
     ·right;rw[xC,if_neg e2];exact h
 unfold fB;have:∀(xs:List (Int×(Int×Int))) (m:List ((Int×Int)×Value)) a v,dL a (xs.foldl (λm p=>upd p.2 (.int .i64 p.1) m) m)=some v->(∃c,v=.int .i64 c/\∃p∈xs,p.1=c)\/dL a m=some v:=by
  intro xs;induction xs with
  |nil=>intro m a v h;exact .inr h
  |cons p xs ih=>
   intro m a v h;rw[qZ]at h;rcases ih _ a v h with⟨c,h1,q,hq,h2⟩|h
   ·exact .inl ⟨c,h1,q,dN _ hq,h2⟩
   ·rcases hup m p.2 _ a v h with⟨_,h1⟩|h
    ·exact .inl ⟨p.1,h1,p,dJ ..,rfl⟩
    ·exact .inr h
 intro a v h;rcases this xs [] a v h with h|h
 ·exact h
 ·cases h
def numOf:Option Value->Option Int
 |some (.int .i64 n)=>some n
 |_=>none
def gu(m:List ((Int×Int)×Value))(s:Int×Int)(ds:List (Int×Int)):List Int:=ds.filterMap λd=>numOf (dL (s.1+d.1,s.2+d.2) m)
theorem adm(m:List ((Int×Int)×Value))(s:Int×Int)(ds:List (Int×Int))(d:Int×Int):gu m s (ds++[d])=gu m s ds++(numOf (dL (s.1+d.1,s.2+d.2) m)).toList:=by
 unfold gu;rw[PG];congr 1
theorem Jg(m:List ((Int×Int)×Value))(s:Int×Int)(ds:List (Int×Int)):(gu m s ds).length<=ds.length:=Xb _ _
def lY(g:bD)(p:Int×(Int×Int)):List Int:=dD (gu (fB (bE g)) p.2 (eP.take (dS g)))
def bO(g:bD):List (List Int):=(bE g).map (lY g)
theorem Jh{g:bD}(h:fH g):∀p∈bE g,(0<=p.1/\p.1<256)/\(-256<=p.2.1/\p.2.1<256)/\(0<=p.2.2/\p.2.2<256):=by
 intro p hp;obtain⟨k,hk⟩:=vz.1 hp;have hkl:=(bK.1 hk).1;rw[qa]at hkl;have hx:g.cells[k]? =some g.cells[k]:=bN hkl;rw[xG hx]at hk;cases hk;have hb:=h.cell _ (aP hx);have hl:=h.len;generalize g.cells[k]=x at hb;have hw:=h.make.wi;have hq:0<=x.tdiv g.w/\x.tdiv g.w<=x:=by
  rw[ul hb.1];exact⟨Ku hb.1 (by omega),Int.ediv_le_self _ hb.1⟩
 have hr:0<=x.tmod g.w/\x.tmod g.w<=x:=by
  rw[DL hb.1];refine⟨Int.emod_nonneg _ (by omega),?_⟩;have:=PI x g.w;have h3:0<=g.w*(x/g.w):=Int.mul_nonneg (by omega) (Ku hb.1 (by omega));omega
 have hq2:0<=(x.tdiv g.w).tdiv 2/\(x.tdiv g.w).tdiv 2<=x.tdiv g.w:=by
  rw[ul hq.1];omega
 unfold nO;dsimp only;refine⟨by omega,?_,by omega⟩;split<;>omega
def Nu:Enc (Int×Int):=⟨2,Unit,λx _=>[.int .i64 x.1,.int .i64 x.2],λ_ _=>[],λ_ _=>rfl⟩
abbrev CU:List Value:=[.int .i64 1,.int .i64 0,.int .i64 (-1),.int .i64 0,.int .i64 0,.int .i64 1,.int .i64 0,.int .i64 (-1),.int .i64 1,.int .i64 (-1),.int .i64 (-1),.int .i64 1]
theorem adn{w:Wd}{b m:Nat}(h:(bZ b 0 CU).p w)(hm:m<=6):(ah Nu (.slice (some ⟨b,0,some 0⟩) m 6) (eP.take m)).p w:=by
 obtain⟨cells,h1,h2⟩:=h;have hl:(eP.take m).length=m:=by rw[gL];show min m 6=m;omega
 refine .inr ⟨b,0,0,6,cells,⟨by rw[hl],by rw[hl];exact hm,.inl rfl⟩,h1,λk x hk=>⟨(),λj u hj=>?_,λf hf=>by cases hf⟩⟩;have hk':eP[k]? =some x:=by
  rw[vw]at hk;split at hk
  ·exact hk
  ·cases hk
 have:=h2 (k*2+j) u (Aw (E:=Nu) (aO:=eP.map λd=>(d,())) (k:=k) (p:=(x,())) (by rw[fw,hk'];rfl) hj);show cells[0+k*2+j]? =_;rw[show 0+k*2+j=0+(k*2+j)by omega];exact this
theorem ado:∀d∈eP,(-1<=d.1/\d.1<=1)/\(-1<=d.2/\d.2<=1):=by decide
theorem adp{j:Nat}{d:Int×Int}(h:eP[j]? =some d):jv (jR CU (j*2)) 2=some [.int .i64 d.1,.int .i64 d.2]:=by
 have hj:j<6:=(bK.1 h).1;match j,hj with
 |0,_=>cases h;rfl
 |1,_=>cases h;rfl
 |2,_=>cases h;rfl
 |3,_=>cases h;rfl
 |4,_=>cases h;rfl
 |5,_=>cases h;rfl
theorem bS{α:Type}{xs:List α}{k:Nat}{x:α}(h:xs[k]? =some x):xs.take (k+1)=xs.take k++[x]:=by
 rw[nS,h];rfl
theorem AC(g:bD):dS g<=6:=by unfold dS;split<;>omega
theorem adq{P:Program}{ρ:Operand->Value}{x hi:Operand}{n size b m:Nat}(hx:ρ x=.pointer (some ⟨b,0,none⟩))(hh:ρ hi=.int .i64 (m:Int))(hm:m<=n):Pu P ρ (.Kw n size x none (some hi) none) (.slice (some ⟨b,0,some 0⟩) m n):=λh=>by
 have hb:bounds? n n none (some (.int .i64 (m:Int))) none=some (0,m,n):=by
  show(match upTo n (.int .i64 (m:Int))with|none=>none|some hh=>_)=_;have:upTo n (.int .i64 (m:Int))=some m:=by
   show cond (Nat.ble m n) (some m) none=_;have:Nat.ble m n=true:=by rw[tZ];exact hm
   rw[this];rfl
  rw[this]
 simp only[aG.run,hx,jf,hh,hb];show some (Value.slice (wF b (Nat.add 0 (Nat.mul 0 size))) (Nat.sub m 0) (Nat.sub n 0),h)=_;rw[show Nat.mul 0 size=0 from Gi _];rfl
theorem xH{g:bD}{k:Nat}{p:Int×(Int×Int)}(h:(bE g)[k]? =some p):p.1=(k:Int):=by
 have hk:=(bK.1 h).1;rw[qa]at hk;rw[xG (bN hk)]at h;cases h;rfl
theorem Ji{g:bD}{vs rest:List (Int×(Int×Int))}{x:Int×(Int×Int)}(h:vs++x::rest=bE g):x.1=(vs.length:Int)/\vs.length<g.cells.length/\x∈bE g:=by
 have h1:(bE g)[vs.length]? =some x:=by rw[<- h];simp
 refine⟨xH h1,?_,aP h1⟩;have:=(bK.1 h1).1
 rwa [qa]at this
theorem TV{A:List (List Int)}{n:Nat}(h:A.length<n)(y:List Int):(A++List.replicate (n - A.length) []).set A.length y=(A++[y])++List.replicate (n - (A.length+1)) []:=by
 rw[List.set_append_right _ _ (bU _),BB,show n - A.length=(n - (A.length+1))+1 by omega,List.replicate_succ,List.set_cons_zero];simp
theorem adr{α:Type}{ws:List α}{k:Nat}{v:α}(h:ws[k]? =some v):ws.set k v=ws:=by
 apply kP;intro i;rw[uj];by_cases e:k=i
 ·subst e;rw[if_pos rfl,if_pos (bK.1 h).1,h]
 ·rw[if_neg e]
theorem vP(g:bD):(bO g).length=g.cells.length:=by
 unfold bO;rw[dV,qa]
theorem ads(g:bD):(bE g).foldl (λ(xss:List (List Int)) (x:Int×(Int×Int))=>xss.set x.1.toNat (lY g x)) (List.replicate g.cells.length [])=bO g:=by
 have key:∀(rest vs:List (Int×(Int×Int))),vs++rest=bE g->rest.foldl (λ(xss:List (List Int)) (x:Int×(Int×Int))=>xss.set x.1.toNat (lY g x)) (vs.map (lY g)++List.replicate (g.cells.length - vs.length) [])=bO g:=by
  intro rest;induction rest with
  |nil=>
   intro vs h;rw[gV]at h;rw[List.foldl_nil,h,qa,BB,List.replicate_zero,gV];rfl
  |cons x rest ih=>
   intro vs h;have h1:=Ji h;rw[qZ,h1.1,ku];have h2:=TV (A:=vs.map (lY g)) (n:=g.cells.length) (by rw[dV];exact h1.2.1) (lY g x);rw[dV]at h2;rw[h2];have h3:=ih (vs++[x]) (by rw[fI];exact h);rw[ed,gU]at h3;exact h3
 have:=key (bE g) [] rfl;rw[List.map_nil,bY,Kj,Dy]at this;exact this
end Kd
namespace Kd
open Go Go.Ideal
theorem xI{α β:Type}[DecidableEq α](a b:α)(v:β):∀m:List (α×β),dL a (upd b v m)=if a=b then some v else dL a m
 |[]=>rfl
 |(k,w)::m=>by
  unfold upd;by_cases e:b=k
  ·rw[if_pos e,xC,xC];by_cases e2:a=b
   ·rw[if_pos e2,if_pos e2]
   ·rw[if_neg e2,if_neg e2,if_neg (λe3=>e2 (e3.trans e.symm))]
  ·rw[if_neg e,xC,xC,xI a b v m];by_cases e2:a=k
   ·rw[if_pos e2,if_pos e2,if_neg (λe3=>e (e3.symm.trans e2))]
   ·rw[if_neg e2,if_neg e2]
theorem TW{α β:Type}[DecidableEq α](b:α)(v:β):∀m:List (α×β),(upd b v m).length<=m.length+1
 |[]=>bU _
 |(k,w)::m=>by
  unfold upd;by_cases e:b=k
  ·rw[if_pos e,oV,oV];omega
  ·rw[if_neg e,oV,oV];have:=TW b v m;omega
def vQ(kf:Int×Int->Int×Bool)(m:List (Int×List Int))(p:Int×(Int×Int)):List (Int×List Int):=
 cond (kf p.2).2 (upd (kf p.2).1 ((dL (kf p.2).1 m).getD []++[p.1]) m) m
def jC(kf:Int×Int->Int×Bool)(ps:List (Int×(Int×Int))):List (Int×List Int):=ps.foldl (vQ kf) []
theorem Fu(kf:Int×Int->Int×Bool)(ps:List (Int×(Int×Int)))(p:Int×(Int×Int)):jC kf (ps++[p])=vQ kf (jC kf ps) p:=by
 unfold jC;rw[BF];rfl
theorem Nv(kf:Int×Int->Int×Bool)(n:Nat):∀ps:List (Int×(Int×Int)),ps.length=n->(jC kf ps).length<=ps.length/\∀a,((dL a (jC kf ps)).getD []).length<=ps.length:=by
 induction n with
 |zero=>
  intro ps h;rw[jQ.1 h];exact⟨bU _,λa=>bU _⟩
 |succ n ih=>
  intro ps h;obtain⟨qs,p,rfl⟩:∃qs p,ps=qs++[p]:=⟨ps.dropLast,ps.getLast (by intro e;rw[e]at h;cases h),(BG _).symm⟩
  have hq:qs.length=n:=by simpa using h
  obtain⟨h1,h2⟩:=ih qs hq;rw[Fu,gU,uh];unfold vQ;cases (kf p.2).2 with
  |false=>exact⟨by show(jC kf qs).length<=_;omega,λa=>by have:=h2 a;show((dL a (jC kf qs)).getD []).length<=_;omega⟩
  |true=>
   refine⟨?_,λa=>?_⟩
   ·have:=TW (kf p.2).1 ((dL (kf p.2).1 (jC kf qs)).getD []++[p.1]) (jC kf qs);show(upd _ _ _).length<=_;omega
   ·show((dL a (upd _ _ _)).getD []).length<=_;rw[xI];by_cases e:a=(kf p.2).1
    ·rw[if_pos e,vo,gU,uh];have:=h2 (kf p.2).1;omega
    ·rw[if_neg e];have:=h2 a;omega
def jg(g:bD)(kf:Int×Int->Int×Bool):List (List Int):=(dD ((jC kf (bE g)).map (·.1))).map λn=>(dL n (jC kf (bE g))).getD []
theorem Jj{g:bD}(hg:fH g)(kf:Int×Int->Int×Bool):(jg g kf).length<=256/\∀l∈jg g kf,l.length<=256:=by
 have h:=Nv kf _ (bE g) rfl;have hl:=hg.len;rw[qa]at h;unfold jg;refine⟨?_,λl hl2=>?_⟩
 ·rw[dV];have:(dD ((jC kf (bE g)).map (·.1))).length=((jC kf (bE g)).map (·.1)).length:=(BD _ _).length_eq;rw[this,dV];omega
 ·obtain⟨n,_,rfl⟩:=eT.1 hl2;have:=h.2 n;omega
def xJ(acc:List (List Int))(l:List Int):List (List Int):=if acc.head? =some l then acc else acc++[l]
def mo(a b:List (List Int)):List (List Int):=b.foldl xJ a
theorem TY{a b:List (List Int)}{k:Nat}{l:List Int}(h:b[k]? =some l):mo a (b.take (k+1))=xJ (mo a (b.take k)) l:=by
 unfold mo;rw[bS h,BF];rfl
theorem Nw{a b:List (List Int)}{n:Nat}(ha:∀l∈a,l.length<=n)(hb:∀l∈b,l.length<=n):∀k,(mo a (b.take k)).length<=a.length+k/\∀l∈mo a (b.take k),l.length<=n
 |0=>⟨bU _,ha⟩
 |k+1=>by
  obtain⟨h1,h2⟩:=Nw ha hb k;cases h:b[k]? with
  |none=>
   have:b.take (k+1)=b.take k:=by rw[nS,h];simp
   rw[this];exact⟨by omega,h2⟩
  |some l=>
   rw[TY h];unfold xJ;split
   ·exact⟨by omega,h2⟩
   ·rw[gU,uh];refine⟨by omega,λx hx=>?_⟩;rcases dB.1 hx with hx|hx
    ·exact h2 x hx
    ·rw[bM.1 hx];exact hb l (aP h)
def lZ(g:bD):List (List Int):=
 if g.shape=2 then jg g (λs=>(s.1+s.2,true))
 else if g.w=g.h then mo (jg g (λs=>(0,decide (s.1=s.2)))) (jg g (λs=>(0,decide (s.1+s.2=g.w - 1))))
 else[]
theorem vR{l:List Int}{x:Int}:x∈dD l↔x∈l:=(BD l _).mem_iff
theorem adt:∀a c:Int,Value.int .i64 a=Value.int .i64 c->a=c:=λa c h=>by injection h
def kF(n:Nat):List (List Int):=(List.range n).map λi:Nat=>[(i:Int)]
theorem TZ(k:Nat):kF (k+1)=kF k++[[(k:Int)]]:=by
 unfold kF;rw[Gj,ed];rfl
theorem T9(k:Nat):(kF k).length=k:=by unfold kF;simp
def upTo'(n:Nat):List Int:=(List.range n).map λi:Nat=>(i:Int)
theorem tN(k:Nat):upTo' (k+1)=upTo' k++[(k:Int)]:=by
 unfold upTo';rw[Gj,ed];rfl
theorem oh(k:Nat):(upTo' k).length=k:=by unfold upTo';simp
def lH(aN:List (List Int)):List (List Int):=aN.zipIdx.map λp=>dD (p.1++[(p.2:Int)])
theorem Ua{aN:List (List Int)}{k:Nat}{l:List Int}(h:aN[k]? =some l):lH (aN.take (k+1))=lH (aN.take k)++[dD (l++[(k:Int)])]:=by
 have hk:=(bK.1 h).1;unfold lH;rw[bS h,DI,ed,gL,zF (by omega)];simp
theorem Ub(aN:List (List Int)):(lH aN).length=aN.length:=by unfold lH;simp
def jJ(i:Nat)(l:List Int):List (List Int):=(l.filter λj=>decide ((i:Int)<j)).map λj=>[(i:Int),j]
theorem Uc{i j:Nat}{l:List Int}{x:Int}(h:l[j]? =some x):jJ i (l.take (j+1))=jJ i (l.take j)++if(i:Int)<x then[[(i:Int),x]]else[]:=by
 unfold jJ;rw[bS h,uk,ed];by_cases e:(i:Int)<x<;>simp[e]
theorem Ny(i:Nat)(l:List Int):(jJ i l).length<=l.length:=by
 unfold jJ;rw[dV];exact DK _ _
def iA(aN:List (List Int)):List (List Int):=aN.zipIdx.flatMap λp=>jJ p.2 p.1
theorem Nz{aN:List (List Int)}{k:Nat}{l:List Int}(h:aN[k]? =some l):iA (aN.take (k+1))=iA (aN.take k)++jJ k l:=by
 have hk:=(bK.1 h).1;unfold iA;rw[bS h,DI,List.flatMap_append,gL,zF (by omega)];simp
theorem Jk{aN:List (List Int)}(hn:∀l∈aN,l.length<=6):∀k,k<=aN.length->(iA (aN.take k)).length<=6*k
 |0,_=>by simp[iA]
 |k+1,hk=>by
  have h:aN[k]? =some aN[k]:=bN (by omega);have:=Jk hn k (by omega);have h2:=Ny k aN[k];have h3:=hn aN[k] (uY _);rw[Nz h,gU];omega
theorem Jl{g:bD}:∀l∈bO g,l.length<=6:=by
 intro l hl;obtain⟨p,_,rfl⟩:=eT.1 hl;unfold lY;have h1:(dD (gu (fB (bE g)) p.2 (eP.take (dS g)))).length=(gu (fB (bE g)) p.2 (eP.take (dS g))).length:=(BD _ _).length_eq;have h2:=Jg (fB (bE g)) p.2 (eP.take (dS g));have h3:=AC g;rw[gL]at h2;omega
def dx(g:bD)(k:Int):List (List Int):=
 if k=0 then kF g.cells.length
 else if k=1 then jg g (λs=>(s.2,true))
 else if k=2 then jg g (λs=>(s.1,true))
 else if k=3 then lZ g
 else if k=4 then bO g
 else if k=5 then lH (bO g)
 else if k=6 then iA (bO g)
 else[upTo' g.cells.length]
end Kd
namespace Kd
open Go Go.Ideal
def xK(p:Int):List Int->Nat
 |[]=>0
 |a::l=>if p=a then 0 else xK p l+1
theorem NA{p:Int}:∀{l:List Int} {n:Nat},l.Pairwise (·<·)->l[n]? =some p->xK p l=n
 |[],n,_,h=>by simp at h
 |a::l,0,_,h=>by
  have h:a=p:=by simpa using h
  unfold xK;rw[if_pos h.symm]
 |a::l,n+1,hp,h=>by
  have h:l[n]? =some p:=by simpa using h
  have h1:=(rq.1 hp).1 p (aP h);unfold xK;rw[if_neg (by omega),NA (rq.1 hp).2 h]
theorem NB{p:Int}:∀{l:List Int},p∈l->xK p l<l.length
 |[],h=>by cases h
 |a::l,h=>by
  unfold xK;by_cases e:p=a
  ·rw[if_pos e,oV];omega
  ·rw[if_neg e,oV];have:=NB (p:=p) (l:=l) ((dG.1 h).resolve_left e);omega
def za(xs:List Int):List (Int×Value):=xs.foldl (λm c=>upd c (.bool true) m) []
theorem Ud(xs:List Int)(c:Int):za (xs++[c])=upd c (.bool true) (za xs):=by
 unfold za;rw[BF];rfl
theorem adu(c:Int)(n:Nat):∀xs:List Int,xs.length=n->dL c (za xs)=if c∈xs then some (.bool true)else none:=by
 induction n with
 |zero=>
  intro xs h;rw[jQ.1 h];rfl
 |succ n ih=>
  intro xs h;obtain⟨ys,p,rfl⟩:∃ys p,xs=ys++[p]:=⟨xs.dropLast,xs.getLast (by intro e;rw[e]at h;cases h),(BG _).symm⟩
  rw[Ud,xI,ih ys (by simpa using h)];by_cases e:c=p
  ·subst e;simp
  ·simp[e]
theorem adv(c:Int)(xs:List Int):kW false (.bool false) c (za xs)=.bool (decide (c∈xs)):=by
 unfold kW;rw[adu c _ xs rfl];by_cases e:c∈xs
 ·rw[if_pos e,dQ e];rfl
 ·rw[if_neg e,aS e];rfl
theorem adw:∀(m:Nat) (l:List Int),l.Nodup->(∀x∈l,0<=x/\x<(m:Int))->l.length<=m:=by
 intro m;induction m with
 |zero=>
  intro l _ h;cases l with
  |nil=>exact bU _
  |cons x l=>have:=h x (dJ ..);omega
 |succ m ih=>
  intro l hn h;have h1:=ih (l.erase (m:Int)) (hn.erase _) (λx hx=>by
   have:=h x (List.mem_of_mem_erase hx);have hne:x≠(m:Int):=λe=>by subst e;exact(List.Nodup.mem_erase_iff hn).1 hx|>.1 rfl
   omega)
  rw[List.length_erase]at h1;split at h1<;>omega
structure zb(g:bD)(ps:List Int):Prop where
 ne:ps≠[]
 mem:∀p∈ps,p∈g.cells
 nd:(ps.map λp=>(xK p g.cells:Int)).Nodup
structure ze(g:bD)(rs:List (List Int)):Prop where
 len:rs.length<=64
 all:∀ps∈rs,zb g ps
def fu(g:bD)(ps:List Int):List Int:=ps.map λp=>(xK p g.cells:Int)
def eD(g:bD)(rs:List (List Int)):List (List Int):=rs.map (fu g)
theorem Jm{g:bD}{ps:List Int}(hm:∀p∈ps,p∈g.cells)(hn:(fu g ps).Nodup):ps.length<=g.cells.length:=by
 have:=adw g.cells.length (fu g ps) hn (λx hx=>by
  obtain⟨p,hp,rfl⟩:=eT.1 hx;have:=NB (hm p hp);omega)
 unfold fu at this
 rwa [dV]at this
end Kd
namespace Kd
open Go Go.Ideal
def uP(xs:List Int):List (Int×Value):=(xs.foldl (λs c=>(upd c (.int .i64 ((s.2.count c:Nat)+1)) s.1,s.2++[c])) (([]:List (Int×Value)),([]:List Int))).1
theorem adx(xs:List Int):∀(m:List (Int×Value)) (ys:List Int),(xs.foldl (λs c=>(upd c (.int .i64 ((s.2.count c:Nat)+1)) s.1,s.2++[c])) (m,ys)).2=ys++xs:=by
 induction xs with
 |nil=>intro m ys;simp
 |cons x xs ih=>intro m ys;rw[qZ,ih];simp
theorem Ue(xs:List Int)(c:Int):uP (xs++[c])=upd c (.int .i64 ((xs.count c:Nat)+1)) (uP xs):=by
 unfold uP;rw[BF,qZ,List.foldl_nil];show upd c _ _=_;rw[adx,bY]
theorem ady(c:Int)(n:Nat):∀xs:List Int,xs.length=n->dL c (uP xs)=if c∈xs then some (.int .i64 (xs.count c:Nat))else none:=by
 induction n with
 |zero=>
  intro xs h;rw[jQ.1 h];rfl
 |succ n ih=>
  intro xs h;obtain⟨ys,p,rfl⟩:∃ys p,xs=ys++[p]:=⟨xs.dropLast,xs.getLast (by intro e;rw[e]at h;cases h),(BG _).symm⟩
  rw[Ue,xI,ih ys (by simpa using h)];by_cases e:c=p
  ·subst e;simp
  ·have e2:¬p=c:=λh=>e h.symm;simp[e,e2,List.count_cons,List.count_append]
theorem Uf(c:Int)(xs:List Int):kW false (.int .i64 0) c (uP xs)=.int .i64 (xs.count c:Nat):=by
 unfold kW;rw[ady c _ xs rfl];by_cases e:c∈xs
 ·rw[if_pos e];rfl
 ·rw[if_neg e,List.count_eq_zero_of_not_mem e];rfl
theorem Ug(c:Int)(xs:List Int):xs.count c<=xs.length:=List.count_le_length ..
def aQ(d:bG):bD:=⟨d.shape,d.w,d.h,d.holes,mU d.w d.h d.holes⟩
def l5(d:bG):List (List (List Int)):=((List.range 8).map λf:Nat=>dx (aQ d) (f:Int))++d.regions.map λr=>eD (aQ d) r.lists
def kG(d:bG):bR:=⟨d,aQ d,bO (aQ d),l5 d⟩
