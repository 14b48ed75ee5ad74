/-
  Kinds, in plain lists: declarations, how names are resolved; how they lie in cells.
-/
import Derived.Test.YtoohgkkmdnbnfaaGreatDoorIdealNA
set_option linter.all false
namespace Kd
open Go Go.Ideal
structure oz where
 name:ByteArray
 value:Int
 deriving DecidableEq
structure mg where
 name:ByteArray
 lists:List (List Int)
 deriving DecidableEq
structure iY where
 name:ByteArray
 on:ByteArray
 family:Int
 type:Int
 lo:Int
 hi:Int
 deriving DecidableEq
structure aU where
 name:ByteArray
 on:ByteArray
 kind:Int
 family:Int
 names:List ByteArray
 others:List ByteArray
 set:Int
 other:Int
 op:Int
 n:Int
 bZ:ByteArray
 aG:Int
 deriving DecidableEq
structure bE where
 name:ByteArray
 version:Int
 shape:Int
 w:Int
 h:Int
 holes:List Int
 symbols:List oz
 regions:List mg
 aJ:List iY
 rules:List aU
 deriving DecidableEq
structure bA where
 shape:Int
 w:Int
 h:Int
 holes:List Int
 cells:List Int
 deriving DecidableEq
structure bS where
 decl:bE
 grid:bA
 bn:List (List Int)
 lists:List (List (List Int))
 deriving DecidableEq
def fF:Enc oz:=⟨2,Unit,λx _=>[.string x.name,.int .i64 x.value],λ_ _=>[],λ_ _=>rfl⟩
def eH:Enc mg:=⟨2,Value,λx v=>[.string x.name,v],λx v=>[ah (aj aa) v x.lists],λ_ _=>rfl⟩
def bM:Enc iY:=⟨6,Unit,λx _=>[.string x.name,.string x.on,.int .i64 x.family,.int .i64 x.type,.int .i64 x.lo,.int .i64 x.hi],λ_ _=>[],λ_ _=>rfl⟩
abbrev iT(x:aU)(v1 v2:Value):List Value:=[.string x.name,.string x.on,.int .i64 x.kind,.int .i64 x.family,v1,v2,.int .i64 x.set,.int .i64 x.other,.int .i64 x.op,.int .i64 x.n,.string x.bZ,.int .i64 x.aG]
def aY:Enc aU:=⟨12,Value×Value,λx v=>iT x v.1 v.2,λx v=>[ah aR v.1 x.names,ah aR v.2 x.others],λ_ _=>rfl⟩
abbrev gF(d:bE)(vh vs vr vc vu:Value):List Value:=[.string d.name,.int .i64 d.version,.int .i64 d.shape,.int .i64 d.w,.int .i64 d.h,vh,vs,vr,vc,vu]
abbrev kT(d:bE)(vh vs vr vc vu:Value):List aH:=[ah aa vh d.holes,ah fF vs d.symbols,ah eH vr d.regions,ah bM vc d.aJ,ah aY vu d.rules]
def dS(s:ByteArray):List ByteArray->Nat
 |[]=>0
 |a::l=>if s=a then 0 else dS s l+1
theorem yu{s:ByteArray}:∀{l:List ByteArray},s∈l->dS s l<l.length
 |[],h=>by cases h
 |a::l,h=>by
  unfold dS;split
  ·simp
  ·rename_i hne;have:=yu ((dF.1 h).resolve_left hne);simp;omega
def fD(names:List ByteArray)(start:Nat):List (ByteArray×Value):=names.zipIdx.map λp=>(p.1,.int .i64 ((start+p.2:Nat):Int))
theorem Ms(a b:List ByteArray)(start:Nat):fD (a++b) start=fD a start++fD b (start+a.length):=by
 unfold fD;rw[AU,dW];congr 1;rw[show b.zipIdx (0+a.length)=(b.zipIdx 0).map (λp=>(p.1,p.2+a.length))by
  rw[eT];conv=>lhs;rw[show a.length=0+a.length by omega]
  rw[List.zipIdx_eq_map_add];apply Gg;rintro⟨s,i⟩ _;simp only;rw[show 0+a.length+i=i+a.length by omega]]
 rw[u7];apply Gg;rintro⟨s,i⟩ _;simp only[Function.comp];rw[show start+(i+a.length)=start+a.length+i by omega]
theorem rZ(names:List ByteArray)(start:Nat):(fD names start).map (·.1)=names:=by
 unfold fD;rw[u7];have:((λp:ByteArray×Value=>p.1)∘λp:ByteArray×Nat=>(p.1,Value.int .i64 ((start+p.2:Nat):Int)))=Prod.fst:=rfl;rw[this,List.zipIdx_map_fst]
theorem wo{α β:Type}[DecidableEq α](a b:α)(v:β)(l:List (α×β)):dJ a ((b,v)::l)=if a=b then some v else dJ a l:=rfl
theorem qK{α β:Type}[DecidableEq α]{a:α}:∀{l:List (α×β)},a∉l.map (·.1)->dJ a l=none
 |[],_=>rfl
 |(b,v)::l,h=>by
  unfold dJ;rw[if_neg (λe=>h (by rw[e];simp)),qK (λh2=>h (by simp only[gQ];exact cO _ h2))]
theorem Fj{α β:Type}[DecidableEq α]{a:α}:∀{l:List (α×β)},a∈l.map (·.1)->∃v,dJ a l=some v
 |[],h=>by cases h
 |(b,v)::l,h=>by
  unfold dJ;by_cases e:a=b
  ·exact⟨v,by rw[if_pos e]⟩
  ·obtain⟨u,hu⟩:=Fj (l:=l) ((dF.1 h).resolve_left e);exact⟨u,by rw[if_neg e,hu]⟩
theorem ww{s:ByteArray}:∀{names:List ByteArray} {start:Nat},s∈names->dJ s (fD names start)=some (.int .i64 ((start+dS s names:Nat):Int))
 |[],start,h=>by cases h
 |a::l,start,h=>by
  have e:fD (a::l) start=(a,.int .i64 ((start:Nat):Int))::fD l (start+1):=by
   have:=Ms [a] l start;simpa[fD]using this
  rw[e];unfold dJ dS;by_cases hs:s=a
  ·rw[if_pos hs,if_pos hs];rfl
  ·rw[if_neg hs,if_neg hs,ww ((dF.1 h).resolve_left hs),show start+1+dS s l=start+(dS s l+1)by omega]
theorem Cf{α β:Type}[DecidableEq α]{a:α}{v:β}:∀{l:List (α×β)},a∉l.map (·.1)->upd a v l=l++[(a,v)]
 |[],_=>rfl
 |(b,u)::l,h=>by
  unfold upd;rw[if_neg (λe=>h (by rw[e];simp)),Cf (λh2=>h (by simp only[gQ];exact cO _ h2))];rfl
def iI:List ByteArray:=[⟨⟨[99,101,108,108,115]⟩⟩,⟨⟨[114,111,119,115]⟩⟩,⟨⟨[99,111,108,117,109,110,115]⟩⟩,⟨⟨[100,105,97,103,111,110,97,108,115]⟩⟩,⟨⟨[97,114,111,117,110,100]⟩⟩,⟨⟨[110,101,97,114]⟩⟩,⟨⟨[112,97,105,114,115]⟩⟩,⟨⟨[97,108,108]⟩⟩]
def bP(d:bE):List ByteArray:=d.symbols.map (·.name)
def bW(d:bE):List ByteArray:=iI++d.regions.map (·.name)
def dK(d:bE):List ByteArray:=d.aJ.map (·.name)
def mV(d:bE):List ByteArray:=d.rules.map (·.name)
def fZ(dP l:List ByteArray):Nat:=l.foldl (λm s=>m|||1<<<dS s dP) 0
def lm(qa:List ByteArray)(c:iY):iY:={c with family:=(dS c.on qa:Int)}
def mh(dP qa jv:List ByteArray)(r:aU):aU:=
 {r with family:=if r.on=⟨⟨[]⟩⟩then 0 else(dS r.on qa:Int),aG:=if r.bZ=⟨⟨[]⟩⟩then -1 else(dS r.bZ jv:Int),set:=(fZ dP r.names:Int),other:=(fZ dP r.others:Int)}
def bF(d:bE):bE:={d with aJ:=d.aJ.map (lm (bW d)),rules:=d.rules.map (mh (bP d) (bW d) (dK d))}
structure zX(dP qa jv:List ByteArray)(r:aU):Prop where
 on:r.on=⟨⟨[]⟩⟩\/r.on∈qa
 names:∀s∈r.names,s∈dP
 others:∀s∈r.others,s∈dP
 bZ:r.bZ=⟨⟨[]⟩⟩\/r.bZ∈jv
structure Cg(d:bE):Prop where
 dP:d.symbols.length<=16
 SQ:(bP d).Nodup
 SS:(bW d).Nodup
 SV:(dK d).Nodup
 Mt:∀c∈d.aJ,c.on∈bW d
 SX:(mV d).Nodup
 uJ:∀r∈d.rules,zX (bP d) (bW d) (dK d) r
def jE{α:Type}(f:α->α)(k:Nat)(xs:List α):List α:=(xs.take k).map f++xs.drop k
theorem SY{α:Type}(f:α->α)(xs:List α):jE f xs.length xs=xs.map f:=by simp[jE]
theorem yx{α:Type}(f:α->α)(k:Nat)(xs:List α):(jE f k xs).length=xs.length:=by simp[jE];omega
theorem S9{α:Type}(f:α->α){k:Nat}{xs:List α}(hk:k<xs.length):(jE f k xs)[k]? =xs[k]?:=by
 unfold jE;rw[lX (by simp;omega),bR,gM,y7 (by omega),xe,mX,yU]
theorem Ta{α:Type}(f:α->α){k:Nat}{xs:List α}{x:α}(hx:xs[k]? =some x):(jE f k xs).set k (f x)=jE f (k+1) xs:=by
 have hk:=(bO.1 hx).1;unfold jE;rw[List.set_append_right _ _ (by simp;omega),bR,gM,y7 (by omega),xe];have hd:xs.drop k=x::xs.drop (k+1):=by
  rw[oI hk];congr 1;rw[cB hk]at hx;exact Option.some.inj hx
 rw[hd,mM,hx,dW];simp
end Kd
namespace Kd
open Go Go.Ideal
structure nT(s w h:Int)(holes:List Int):Prop where
 sh:s=1\/s=2
 wi:1<=w/\w<=16
 he:1<=h/\h<=16
 len:(holes.length:Int)<w*h
 inc:holes.Pairwise (·<·)
 mem:∀x∈holes,0<=x/\x<w*h
def gJ(n:Nat)(holes:List Int):List Int:=((List.range n).map λi:Nat=>(i:Int)).filter λi=>!decide (i∈holes)
theorem Iu(n:Nat)(holes:List Int):gJ (n+1) holes=gJ n holes++if(n:Int)∈holes then[]else[(n:Int)]:=by
 unfold gJ;rw[JG,dW,AQ];congr 1;by_cases h:(n:Int)∈holes
 ·simp[h]
 ·simp[h]
theorem Ch(n:Nat)(holes:List Int):(gJ n holes).length<=n:=by
 unfold gJ;refine lF (AV _ _) ?_;simp
theorem Tc{n:Nat}{holes:List Int}{x:Int}(h:x∈gJ n holes):0<=x/\x<n/\x∉holes:=by
 unfold gJ at h;obtain⟨h1,h2⟩:=um.1 h;obtain⟨i,hi,rfl⟩:=fo.1 h1;have:=uj.1 hi;exact⟨by omega,by omega,by simpa using h2⟩
theorem Mv(n:Nat)(holes:List Int):(gJ n holes).Pairwise (·<·):=by
 unfold gJ;refine List.Pairwise.filter _ ?_;rw[Dc];exact List.Pairwise.imp (λh=>by omega) List.pairwise_lt_range
def mi(w h:Int)(holes:List Int):List Int:=gJ (w*h).toNat holes
theorem wy{w h:Int}(hw:1<=w/\w<=16)(hh:1<=h/\h<=16):1<=w*h/\w*h<=256:=by
 have h1:1*1<=w*h:=Int.mul_le_mul hw.1 hh.1 (by omega) (by omega);have h2:w*h<=16*16:=Int.mul_le_mul hw.2 hh.2 (by omega) (by omega);omega
structure fq(g:bA):Prop where
 make:nT g.shape g.w g.h g.holes
 cells:g.cells=mi g.w g.h g.holes
theorem fq.cell{g:bA}(h:fq g):∀x∈g.cells,0<=x/\x<256:=by
 intro x hx;rw[h.cells]at hx;have h1:=Tc hx;have h2:=wy h.make.wi h.make.he;omega
theorem fq.len{g:bA}(h:fq g):g.cells.length<=256:=by
 rw[h.cells];have h1:=Ch (g.w*g.h).toNat g.holes;have h2:=wy h.make.wi h.make.he;unfold mi;omega
def mW(g:bA)(pos:Int):Int×Int:=(if g.shape=2 then pos.tmod g.w - (pos.tdiv g.w).tdiv 2 else pos.tmod g.w,pos.tdiv g.w)
def bB(g:bA):List (Int×(Int×Int)):=g.cells.zipIdx.map λp=>((p.2:Int),mW g p.1)
theorem wz{g:bA}{k:Nat}{x:Int}(h:g.cells[k]? =some x):(bB g)[k]? =some ((k:Int),mW g x):=by
 unfold bB;rw[eZ,List.getElem?_zipIdx,h];simp
theorem oC(g:bA):(bB g).length=g.cells.length:=by simp[bB]
theorem Td{a b:List Int}(h:a.Perm b):di a=di b:=by
 have h1:(di a).Perm (di b):=(xk a _).trans (h.trans (xk b _).symm);have s1:(di a).Pairwise (λx y=>x<=y):=by
  have:=Oz (le:=λx y:Int=>decide (x<=y)) (λa b c h1 h2=>by simp at h1 h2⊢;omega) (λa b=>by simp;omega) a;exact this.imp (λh=>by simpa using h)
 have s2:(di b).Pairwise (λx y=>x<=y):=by
  have:=Oz (le:=λx y:Int=>decide (x<=y)) (λa b c h1 h2=>by simp at h1 h2⊢;omega) (λa b=>by simp;omega) b;exact this.imp (λh=>by simpa using h)
 generalize di a=u at h1 s1;generalize di b=v at h1 s2;clear h;induction u generalizing v with
 |nil=>exact(List.nil_perm.1 h1).symm▸rfl
 |cons x u ih=>
  cases v with
  |nil=>exact absurd h1.length_eq (by simp)
  |cons y v=>
   have hxy:x=y:=by
    have hx:x∈y::v:=h1.mem_iff.1 (cZ ..);have hy:y∈x::u:=h1.mem_iff.2 (cZ ..);rcases dF.1 hx with e|hx
    ·exact e
    rcases dF.1 hy with e|hy
    ·exact e.symm
    have:=(ru.1 s1).1 y hy;have:=(ru.1 s2).1 x hx;omega
   subst hxy;rw[ih (ru.1 s1).2 v ((List.perm_cons x).1 h1) (ru.1 s2).2]
def eB:List (Int×Int):=[(1,0),(-1,0),(0,1),(0, -1),(1, -1),(-1,1)]
def dQ(g:bA):Nat:=if g.shape=1 then 4 else 6
def fu(xs:List (Int×(Int×Int))):List ((Int×Int)×Value):=xs.foldl (λm p=>upd p.2 (.int .i64 p.1) m) []
theorem Mw(xs:List (Int×(Int×Int)))(p:Int×(Int×Int)):fu (xs++[p])=upd p.2 (.int .i64 p.1) (fu xs):=by
 unfold fu;rw[Gm];rfl
theorem Te{xs:List (Int×(Int×Int))}:∀a v,dJ a (fu xs)=some v->∃c,v=.int .i64 c/\∃p∈xs,p.1=c:=by
 have hup:∀(m:List ((Int×Int)×Value)) (b:Int×Int) (u:Value) (a:Int×Int) (v:Value),dJ a (upd b u m)=some v->(a=b/\v=u)\/dJ a m=some v:=by
  intro m;induction m with
  |nil=>
   intro b u a v h;have h:(if a=b then some u else none)=some v:=h;by_cases e:a=b
   ·rw[if_pos e]at h;exact .inl ⟨e,(Option.some.inj h).symm⟩
   ·rw[if_neg e]at h;cases h
  |cons q m ih=>
   intro b u a v h;obtain⟨k,w⟩:=q;unfold upd at h;by_cases e:b=k
   ·rw[if_pos e,wo]at h;by_cases e2:a=b
    ·rw[if_pos e2]at h;exact .inl ⟨e2,(Option.some.inj h).symm⟩
    ·rw[if_neg e2]at h;right;rw[wo,if_neg (λe3=>e2 (e3.trans e.symm))];exact h
   ·rw[if_neg e,wo]at h;by_cases e2:a=k
    ·rw[if_pos e2]at h;right;rw[wo,if_pos e2];exact h
    ·rw[if_neg e2]at h;rcases ih b u a v h with h|h
     ·exact .inl h
     ·right;rw[wo,if_neg e2];exact h
 unfold fu;have:∀(xs:List (Int×(Int×Int))) (m:List ((Int×Int)×Value)) a v,dJ a (xs.foldl (λm p=>upd p.2 (.int .i64 p.1) m) m)=some v->(∃c,v=.int .i64 c/\∃p∈xs,p.1=c)\/dJ a m=some v:=by
  intro xs;induction xs with
  |nil=>intro m a v h;exact .inr h
  |cons p xs ih=>
   intro m a v h;rw[ug]at h;rcases ih _ a v h with⟨c,h1,q,hq,h2⟩|h
   ·exact .inl ⟨c,h1,q,cO _ hq,h2⟩
   ·rcases hup m p.2 _ a v h with⟨_,h1⟩|h
    ·exact .inl ⟨p.1,h1,p,cZ ..,rfl⟩
    ·exact .inr h
 intro a v h;rcases this xs [] a v h with h|h
 ·exact h
 ·cases h
def numOf:Option Value->Option Int
 |some (.int .i64 n)=>some n
 |_=>none
def gp(m:List ((Int×Int)×Value))(s:Int×Int)(ds:List (Int×Int)):List Int:=ds.filterMap λd=>numOf (dJ (s.1+d.1,s.2+d.2) m)
theorem acB(m:List ((Int×Int)×Value))(s:Int×Int)(ds:List (Int×Int))(d:Int×Int):gp m s (ds++[d])=gp m s ds++(numOf (dJ (s.1+d.1,s.2+d.2) m)).toList:=by
 unfold gp;rw[Gn];congr 1
theorem Iw(m:List ((Int×Int)×Value))(s:Int×Int)(ds:List (Int×Int)):(gp m s ds).length<=ds.length:=Wh _ _
def lq(g:bA)(p:Int×(Int×Int)):List Int:=di (gp (fu (bB g)) p.2 (eB.take (dQ g)))
def bI(g:bA):List (List Int):=(bB g).map (lq g)
theorem Iy{g:bA}(h:fq g):∀p∈bB g,(0<=p.1/\p.1<256)/\(-256<=p.2.1/\p.2.1<256)/\(0<=p.2.2/\p.2.2<256):=by
 intro p hp;obtain⟨k,hk⟩:=uk.1 hp;have hkl:=(bO.1 hk).1;rw[oC]at hkl;have hx:g.cells[k]? =some g.cells[k]:=cB hkl;rw[wz hx]at hk;cases hk;have hb:=h.cell _ (bG hx);have hl:=h.len;generalize g.cells[k]=x at hb;have hw:=h.make.wi;have hq:0<=x.tdiv g.w/\x.tdiv g.w<=x:=by
  rw[sI hb.1];exact⟨JH hb.1 (by omega),Int.ediv_le_self _ hb.1⟩
 have hr:0<=x.tmod g.w/\x.tmod g.w<=x:=by
  rw[De hb.1];refine⟨Int.emod_nonneg _ (by omega),?_⟩;have:=OB x g.w;have h3:0<=g.w*(x/g.w):=Int.mul_nonneg (by omega) (JH hb.1 (by omega));omega
 have hq2:0<=(x.tdiv g.w).tdiv 2/\(x.tdiv g.w).tdiv 2<=x.tdiv g.w:=by
  rw[sI hq.1];omega
 unfold mW;dsimp only;refine⟨by omega,?_,by omega⟩;split<;>omega
def Mx:Enc (Int×Int):=⟨2,Unit,λx _=>[.int .i64 x.1,.int .i64 x.2],λ_ _=>[],λ_ _=>rfl⟩
abbrev Ci:List Value:=[.int .i64 1,.int .i64 0,.int .i64 (-1),.int .i64 0,.int .i64 0,.int .i64 1,.int .i64 0,.int .i64 (-1),.int .i64 1,.int .i64 (-1),.int .i64 (-1),.int .i64 1]
theorem acC{w:Wd}{b m:Nat}(h:(eG b 0 Ci).p w)(hm:m<=6):(ah Mx (.slice (some ⟨b,0,some 0⟩) m 6) (eB.take m)).p w:=by
 obtain⟨cells,h1,h2⟩:=h;have hl:(eB.take m).length=m:=by rw[gM];show min m 6=m;omega
 refine .inr ⟨b,0,0,6,cells,⟨by rw[hl],by rw[hl];exact hm,.inl rfl⟩,h1,λk x hk=>⟨(),λj u hj=>?_,λf hf=>by cases hf⟩⟩;have hk':eB[k]? =some x:=by
  rw[pE]at hk;split at hk
  ·exact hk
  ·cases hk
 have:=h2 (k*2+j) u (wm (E:=Mx) (az:=eB.map λd=>(d,())) (k:=k) (p:=(x,())) (by rw[eZ,hk'];rfl) hj);show cells[0+k*2+j]? =_;rw[show 0+k*2+j=0+(k*2+j)by omega];exact this
theorem acD:∀d∈eB,(-1<=d.1/\d.1<=1)/\(-1<=d.2/\d.2<=1):=by decide
theorem acE{j:Nat}{d:Int×Int}(h:eB[j]? =some d):ja (jI Ci (j*2)) 2=some [.int .i64 d.1,.int .i64 d.2]:=by
 have hj:j<6:=(bO.1 h).1;match j,hj with
 |0,_=>cases h;rfl
 |1,_=>cases h;rfl
 |2,_=>cases h;rfl
 |3,_=>cases h;rfl
 |4,_=>cases h;rfl
 |5,_=>cases h;rfl
theorem bY{α:Type}{xs:List α}{k:Nat}{x:α}(h:xs[k]? =some x):xs.take (k+1)=xs.take k++[x]:=by
 rw[mM,h];rfl
theorem zY(g:bA):dQ g<=6:=by unfold dQ;split<;>omega
theorem acF{P:Program}{ρ:Operand->Value}{x hi:Operand}{n size b m:Nat}(hx:ρ x=.pointer (some ⟨b,0,none⟩))(hh:ρ hi=.int .i64 (m:Int))(hm:m<=n):Pu P ρ (.JK n size x none (some hi) none) (.slice (some ⟨b,0,some 0⟩) m n):=λh=>by
 have hb:bounds? n n none (some (.int .i64 (m:Int))) none=some (0,m,n):=by
  show(match upTo n (.int .i64 (m:Int))with|none=>none|some hh=>_)=_;have:upTo n (.int .i64 (m:Int))=some m:=by
   show cond (Nat.ble m n) (some m) none=_;have:Nat.ble m n=true:=by rw[pu];exact hm
   rw[this];rfl
  rw[this]
 simp only[aB.run,hx,iR,hh,hb];show some (Value.slice (vB b (Nat.add 0 (Nat.mul 0 size))) (Nat.sub m 0) (Nat.sub n 0),h)=_;rw[show Nat.mul 0 size=0 from w9 _];rfl
theorem wB{g:bA}{k:Nat}{p:Int×(Int×Int)}(h:(bB g)[k]? =some p):p.1=(k:Int):=by
 have hk:=(bO.1 h).1;rw[oC]at hk;rw[wz (cB hk)]at h;cases h;rfl
theorem Iz{g:bA}{vs rest:List (Int×(Int×Int))}{x:Int×(Int×Int)}(h:vs++x::rest=bB g):x.1=(vs.length:Int)/\vs.length<g.cells.length/\x∈bB g:=by
 have h1:(bB g)[vs.length]? =some x:=by rw[<- h];simp
 refine⟨wB h1,?_,bG h1⟩;have:=(bO.1 h1).1
 rwa [oC]at this
theorem Tf{A:List (List Int)}{n:Nat}(h:A.length<n)(y:List Int):(A++List.replicate (n - A.length) []).set A.length y=(A++[y])++List.replicate (n - (A.length+1)) []:=by
 rw[List.set_append_right _ _ (bJ _),xe,show n - A.length=(n - (A.length+1))+1 by omega,List.replicate_succ,List.set_cons_zero];simp
theorem acG{α:Type}{ws:List α}{k:Nat}{v:α}(h:ws[k]? =some v):ws.set k v=ws:=by
 apply jW;intro i;rw[uZ];by_cases e:k=i
 ·subst e;rw[if_pos rfl,if_pos (bO.1 h).1,h]
 ·rw[if_neg e]
theorem wC(g:bA):(bI g).length=g.cells.length:=by
 unfold bI;rw[bR,oC]
theorem acH(g:bA):(bB g).foldl (λ(xss:List (List Int)) (x:Int×(Int×Int))=>xss.set x.1.toNat (lq g x)) (List.replicate g.cells.length [])=bI g:=by
 have key:∀(rest vs:List (Int×(Int×Int))),vs++rest=bB g->rest.foldl (λ(xss:List (List Int)) (x:Int×(Int×Int))=>xss.set x.1.toNat (lq g x)) (vs.map (lq g)++List.replicate (g.cells.length - vs.length) [])=bI g:=by
  intro rest;induction rest with
  |nil=>
   intro vs h;rw[gy]at h;rw[List.foldl_nil,h,oC,xe,List.replicate_zero,gy];rfl
  |cons x rest ih=>
   intro vs h;have h1:=Iz h;rw[ug,h1.1,CY];have h2:=Tf (A:=vs.map (lq g)) (n:=g.cells.length) (by rw[bR];exact h1.2.1) (lq g x);rw[bR]at h2;rw[h2];have h3:=ih (vs++[x]) (by rw[fE];exact h);rw[dW,fA]at h3;exact h3
 have:=key (bB g) [] rfl;rw[List.map_nil,bX,CZ,AO]at this;exact this
end Kd
namespace Kd
open Go Go.Ideal
theorem wD{α β:Type}[DecidableEq α](a b:α)(v:β):∀m:List (α×β),dJ a (upd b v m)=if a=b then some v else dJ a m
 |[]=>rfl
 |(k,w)::m=>by
  unfold upd;by_cases e:b=k
  ·rw[if_pos e,wo,wo];by_cases e2:a=b
   ·rw[if_pos e2,if_pos e2]
   ·rw[if_neg e2,if_neg e2,if_neg (λe3=>e2 (e3.trans e.symm))]
  ·rw[if_neg e,wo,wo,wD a b v m];by_cases e2:a=k
   ·rw[if_pos e2,if_pos e2,if_neg (λe3=>e (e3.symm.trans e2))]
   ·rw[if_neg e2,if_neg e2]
theorem Tg{α β:Type}[DecidableEq α](b:α)(v:β):∀m:List (α×β),(upd b v m).length<=m.length+1
 |[]=>bJ _
 |(k,w)::m=>by
  unfold upd;by_cases e:b=k
  ·rw[if_pos e,nK,nK];omega
  ·rw[if_neg e,nK,nK];have:=Tg b v m;omega
def uK(kf:Int×Int->Int×Bool)(m:List (Int×List Int))(p:Int×(Int×Int)):List (Int×List Int):=
 cond (kf p.2).2 (upd (kf p.2).1 ((dJ (kf p.2).1 m).getD []++[p.1]) m) m
def iZ(kf:Int×Int->Int×Bool)(ps:List (Int×(Int×Int))):List (Int×List Int):=ps.foldl (uK kf) []
theorem Fp(kf:Int×Int->Int×Bool)(ps:List (Int×(Int×Int)))(p:Int×(Int×Int)):iZ kf (ps++[p])=uK kf (iZ kf ps) p:=by
 unfold iZ;rw[Gm];rfl
theorem IA(kf:Int×Int->Int×Bool)(n:Nat):∀ps:List (Int×(Int×Int)),ps.length=n->(iZ kf ps).length<=ps.length/\∀a,((dJ a (iZ kf ps)).getD []).length<=ps.length:=by
 induction n with
 |zero=>
  intro ps h;rw[ji.1 h];exact⟨bJ _,λa=>bJ _⟩
 |succ n ih=>
  intro ps h;obtain⟨qs,p,rfl⟩:∃qs p,ps=qs++[p]:=⟨ps.dropLast,ps.getLast (by intro e;rw[e]at h;cases h),(AX _).symm⟩
  have hq:qs.length=n:=by simpa using h
  obtain⟨h1,h2⟩:=ih qs hq;rw[Fp,fA,uY];unfold uK;cases (kf p.2).2 with
  |false=>exact⟨by show(iZ kf qs).length<=_;omega,λa=>by have:=h2 a;show((dJ a (iZ kf qs)).getD []).length<=_;omega⟩
  |true=>
   refine⟨?_,λa=>?_⟩
   ·have:=Tg (kf p.2).1 ((dJ (kf p.2).1 (iZ kf qs)).getD []++[p.1]) (iZ kf qs);show(upd _ _ _).length<=_;omega
   ·show((dJ a (upd _ _ _)).getD []).length<=_;rw[wD];by_cases e:a=(kf p.2).1
    ·rw[if_pos e,uh,fA,uY];have:=h2 (kf p.2).1;omega
    ·rw[if_neg e];have:=h2 a;omega
def iJ(g:bA)(kf:Int×Int->Int×Bool):List (List Int):=(di ((iZ kf (bB g)).map (·.1))).map λn=>(dJ n (iZ kf (bB g))).getD []
theorem Fq{g:bA}(hg:fq g)(kf:Int×Int->Int×Bool):(iJ g kf).length<=256/\∀l∈iJ g kf,l.length<=256:=by
 have h:=IA kf _ (bB g) rfl;have hl:=hg.len;rw[oC]at h;unfold iJ;refine⟨?_,λl hl2=>?_⟩
 ·rw[bR];have:(di ((iZ kf (bB g)).map (·.1))).length=((iZ kf (bB g)).map (·.1)).length:=(xk _ _).length_eq;rw[this,bR];omega
 ·obtain⟨n,_,rfl⟩:=fo.1 hl2;have:=h.2 n;omega
def wE(acc:List (List Int))(l:List Int):List (List Int):=if acc.head? =some l then acc else acc++[l]
def lN(a b:List (List Int)):List (List Int):=b.foldl wE a
theorem Ti{a b:List (List Int)}{k:Nat}{l:List Int}(h:b[k]? =some l):lN a (b.take (k+1))=wE (lN a (b.take k)) l:=by
 unfold lN;rw[bY h,Gm];rfl
theorem IB{a b:List (List Int)}{n:Nat}(ha:∀l∈a,l.length<=n)(hb:∀l∈b,l.length<=n):∀k,(lN a (b.take k)).length<=a.length+k/\∀l∈lN a (b.take k),l.length<=n
 |0=>⟨bJ _,ha⟩
 |k+1=>by
  obtain⟨h1,h2⟩:=IB ha hb k;cases h:b[k]? with
  |none=>
   have:b.take (k+1)=b.take k:=by rw[mM,h];simp
   rw[this];exact⟨by omega,h2⟩
  |some l=>
   rw[Ti h];unfold wE;split
   ·exact⟨by omega,h2⟩
   ·rw[fA,uY];refine⟨by omega,λx hx=>?_⟩;rcases dV.1 hx with hx|hx
    ·exact h2 x hx
    ·rw[bH.1 hx];exact hb l (bG h)
def kU(g:bA):List (List Int):=
 if g.shape=2 then iJ g (λs=>(s.1+s.2,true))
 else if g.w=g.h then lN (iJ g (λs=>(0,decide (s.1=s.2)))) (iJ g (λs=>(0,decide (s.1+s.2=g.w - 1))))
 else[]
theorem uL{l:List Int}{x:Int}:x∈di l↔x∈l:=(xk l _).mem_iff
theorem acI:∀a c:Int,Value.int .i64 a=Value.int .i64 c->a=c:=λa c h=>by injection h
def kE(n:Nat):List (List Int):=(List.range n).map λi:Nat=>[(i:Int)]
theorem Tj(k:Nat):kE (k+1)=kE k++[[(k:Int)]]:=by
 unfold kE;rw[JG,dW];rfl
theorem Tk(k:Nat):(kE k).length=k:=by unfold kE;simp
def upTo'(n:Nat):List Int:=(List.range n).map λi:Nat=>(i:Int)
theorem uM(k:Nat):upTo' (k+1)=upTo' k++[(k:Int)]:=by
 unfold upTo';rw[JG,dW];rfl
theorem r9(k:Nat):(upTo' k).length=k:=by unfold upTo';simp
def kF(bn:List (List Int)):List (List Int):=bn.zipIdx.map λp=>di (p.1++[(p.2:Int)])
theorem Tm{bn:List (List Int)}{k:Nat}{l:List Int}(h:bn[k]? =some l):kF (bn.take (k+1))=kF (bn.take k)++[di (l++[(k:Int)])]:=by
 have hk:=(bO.1 h).1;unfold kF;rw[bY h,AU,dW,gM,y7 (by omega)];simp
theorem Tn(bn:List (List Int)):(kF bn).length=bn.length:=by unfold kF;simp
def jF(i:Nat)(l:List Int):List (List Int):=(l.filter λj=>decide ((i:Int)<j)).map λj=>[(i:Int),j]
theorem Tp{i j:Nat}{l:List Int}{x:Int}(h:l[j]? =some x):jF i (l.take (j+1))=jF i (l.take j)++if(i:Int)<x then[[(i:Int),x]]else[]:=by
 unfold jF;rw[bY h,AQ,dW];by_cases e:(i:Int)<x<;>simp[e]
theorem MB(i:Nat)(l:List Int):(jF i l).length<=l.length:=by
 unfold jF;rw[bR];exact AV _ _
def ic(bn:List (List Int)):List (List Int):=bn.zipIdx.flatMap λp=>jF p.2 p.1
theorem MC{bn:List (List Int)}{k:Nat}{l:List Int}(h:bn[k]? =some l):ic (bn.take (k+1))=ic (bn.take k)++jF k l:=by
 have hk:=(bO.1 h).1;unfold ic;rw[bY h,AU,Gl,gM,y7 (by omega)];simp
theorem Fs{bn:List (List Int)}(hn:∀l∈bn,l.length<=6):∀k,k<=bn.length->(ic (bn.take k)).length<=6*k
 |0,_=>by simp[ic]
 |k+1,hk=>by
  have h:bn[k]? =some bn[k]:=cB (by omega);have:=Fs hn k (by omega);have h2:=MB k bn[k];have h3:=hn bn[k] (wV _);rw[MC h,fA];omega
theorem Fu{g:bA}:∀l∈bI g,l.length<=6:=by
 intro l hl;obtain⟨p,_,rfl⟩:=fo.1 hl;unfold lq;have h1:(di (gp (fu (bB g)) p.2 (eB.take (dQ g)))).length=(gp (fu (bB g)) p.2 (eB.take (dQ g))).length:=(xk _ _).length_eq;have h2:=Iw (fu (bB g)) p.2 (eB.take (dQ g));have h3:=zY g;rw[gM]at h2;omega
def dA(g:bA)(k:Int):List (List Int):=
 if k=0 then kE g.cells.length
 else if k=1 then iJ g (λs=>(s.2,true))
 else if k=2 then iJ g (λs=>(s.1,true))
 else if k=3 then kU g
 else if k=4 then bI g
 else if k=5 then kF (bI g)
 else if k=6 then ic (bI g)
 else[upTo' g.cells.length]
end Kd
namespace Kd
open Go Go.Ideal
def wF(p:Int):List Int->Nat
 |[]=>0
 |a::l=>if p=a then 0 else wF p l+1
theorem ME{p:Int}:∀{l:List Int} {n:Nat},l.Pairwise (·<·)->l[n]? =some p->wF p l=n
 |[],n,_,h=>by simp at h
 |a::l,0,_,h=>by
  have h:a=p:=by simpa using h
  unfold wF;rw[if_pos h.symm]
 |a::l,n+1,hp,h=>by
  have h:l[n]? =some p:=by simpa using h
  have h1:=(ru.1 hp).1 p (bG h);unfold wF;rw[if_neg (by omega),ME (ru.1 hp).2 h]
theorem MF{p:Int}:∀{l:List Int},p∈l->wF p l<l.length
 |[],h=>by cases h
 |a::l,h=>by
  unfold wF;by_cases e:p=a
  ·rw[if_pos e,nK];omega
  ·rw[if_neg e,nK];have:=MF (p:=p) (l:=l) ((dF.1 h).resolve_left e);omega
def yz(xs:List Int):List (Int×Value):=xs.foldl (λm c=>upd c (.bool true) m) []
theorem Tq(xs:List Int)(c:Int):yz (xs++[c])=upd c (.bool true) (yz xs):=by
 unfold yz;rw[Gm];rfl
theorem acJ(c:Int)(n:Nat):∀xs:List Int,xs.length=n->dJ c (yz xs)=if c∈xs then some (.bool true)else none:=by
 induction n with
 |zero=>
  intro xs h;rw[ji.1 h];rfl
 |succ n ih=>
  intro xs h;obtain⟨ys,p,rfl⟩:∃ys p,xs=ys++[p]:=⟨xs.dropLast,xs.getLast (by intro e;rw[e]at h;cases h),(AX _).symm⟩
  rw[Tq,wD,ih ys (by simpa using h)];by_cases e:c=p
  ·subst e;simp
  ·simp[e]
theorem acK(c:Int)(xs:List Int):kD false (.bool false) c (yz xs)=.bool (decide (c∈xs)):=by
 unfold kD;rw[acJ c _ xs rfl];by_cases e:c∈xs
 ·rw[if_pos e,dZ e];rfl
 ·rw[if_neg e,aT e];rfl
theorem acL:∀(m:Nat) (l:List Int),l.Nodup->(∀x∈l,0<=x/\x<(m:Int))->l.length<=m:=by
 intro m;induction m with
 |zero=>
  intro l _ h;cases l with
  |nil=>exact bJ _
  |cons x l=>have:=h x (cZ ..);omega
 |succ m ih=>
  intro l hn h;have h1:=ih (l.erase (m:Int)) (hn.erase _) (λx hx=>by
   have:=h x (List.mem_of_mem_erase hx);have hne:x≠(m:Int):=λe=>by subst e;exact(List.Nodup.mem_erase_iff hn).1 hx|>.1 rfl
   omega)
  rw[List.length_erase]at h1;split at h1<;>omega
structure yA(g:bA)(ps:List Int):Prop where
 ne:ps≠[]
 mem:∀p∈ps,p∈g.cells
 nd:(ps.map λp=>(wF p g.cells:Int)).Nodup
structure wG(g:bA)(rs:List (List Int)):Prop where
 len:rs.length<=64
 all:∀ps∈rs,yA g ps
def eY(g:bA)(ps:List Int):List Int:=ps.map λp=>(wF p g.cells:Int)
def dU(g:bA)(rs:List (List Int)):List (List Int):=rs.map (eY g)
theorem IC{g:bA}{ps:List Int}(hm:∀p∈ps,p∈g.cells)(hn:(eY g ps).Nodup):ps.length<=g.cells.length:=by
 have:=acL g.cells.length (eY g ps) hn (λx hx=>by
  obtain⟨p,hp,rfl⟩:=fo.1 hx;have:=MF (hm p hp);omega)
 unfold eY at this
 rwa [bR]at this
end Kd
namespace Kd
open Go Go.Ideal
def tO(xs:List Int):List (Int×Value):=(xs.foldl (λs c=>(upd c (.int .i64 ((s.2.count c:Nat)+1)) s.1,s.2++[c])) (([]:List (Int×Value)),([]:List Int))).1
theorem acM(xs:List Int):∀(m:List (Int×Value)) (ys:List Int),(xs.foldl (λs c=>(upd c (.int .i64 ((s.2.count c:Nat)+1)) s.1,s.2++[c])) (m,ys)).2=ys++xs:=by
 induction xs with
 |nil=>intro m ys;simp
 |cons x xs ih=>intro m ys;rw[ug,ih];simp
theorem Tt(xs:List Int)(c:Int):tO (xs++[c])=upd c (.int .i64 ((xs.count c:Nat)+1)) (tO xs):=by
 unfold tO;rw[Gm,ug,List.foldl_nil];show upd c _ _=_;rw[acM,bX]
theorem acN(c:Int)(n:Nat):∀xs:List Int,xs.length=n->dJ c (tO xs)=if c∈xs then some (.int .i64 (xs.count c:Nat))else none:=by
 induction n with
 |zero=>
  intro xs h;rw[ji.1 h];rfl
 |succ n ih=>
  intro xs h;obtain⟨ys,p,rfl⟩:∃ys p,xs=ys++[p]:=⟨xs.dropLast,xs.getLast (by intro e;rw[e]at h;cases h),(AX _).symm⟩
  rw[Tt,wD,ih ys (by simpa using h)];by_cases e:c=p
  ·subst e;simp
  ·have e2:¬p=c:=λh=>e h.symm;simp[e,e2,List.count_cons,List.count_append]
theorem Tu(c:Int)(xs:List Int):kD false (.int .i64 0) c (tO xs)=.int .i64 (xs.count c:Nat):=by
 unfold kD;rw[acN c _ xs rfl];by_cases e:c∈xs
 ·rw[if_pos e];rfl
 ·rw[if_neg e,List.count_eq_zero_of_not_mem e];rfl
theorem Tv(c:Int)(xs:List Int):xs.count c<=xs.length:=List.count_le_length ..
def aO(d:bE):bA:=⟨d.shape,d.w,d.h,d.holes,mi d.w d.h d.holes⟩
def kV(d:bE):List (List (List Int)):=((List.range 8).map λf:Nat=>dA (aO d) (f:Int))++d.regions.map λr=>dU (aO d) r.lists
def kg(d:bE):bS:=⟨d,aO d,bI (aO d),kV d⟩
