/-
  Part PlainBW.
-/
import Derived.Test.YtfakljdleblkoaaGreatIdealNW
set_option linter.all false
namespace Kd
open Go Go.Ideal
structure lY where
 name:ByteArray
 value:Int
 deriving DecidableEq
structure mH where
 name:ByteArray
 lists:List (List Int)
 deriving DecidableEq
structure iJ where
 name:ByteArray
 on:ByteArray
 family:Int
 type:Int
 lo:Int
 hi:Int
 deriving DecidableEq
structure bA where
 name:ByteArray
 on:ByteArray
 kind:Int
 family:Int
 names:List ByteArray
 others:List ByteArray
 set:Int
 other:Int
 op:Int
 n:Int
 dm:ByteArray
 aQ:Int
 deriving DecidableEq
structure bE where
 name:ByteArray
 version:Int
 shape:Int
 w:Int
 h:Int
 holes:List Int
 symbols:List lY
 regions:List mH
 aJ:List iJ
 rules:List bA
 deriving DecidableEq
structure bz where
 shape:Int
 w:Int
 h:Int
 holes:List Int
 cells:List Int
 deriving DecidableEq
structure bS where
 decl:bE
 grid:bz
 aD:List (List Int)
 lists:List (List (List Int))
 deriving DecidableEq
def eP:Enc lY:=⟨2,Unit,λx _=>[.string x.name,.int .i64 x.value],λ_ _=>[],λ_ _=>rfl⟩
def eZ:Enc mH:=⟨2,Value,λx v=>[.string x.name,v],λx v=>[ai (ak ae) v x.lists],λ_ _=>rfl⟩
def bP:Enc iJ:=⟨6,Unit,λx _=>[.string x.name,.string x.on,.int .i64 x.family,.int .i64 x.type,.int .i64 x.lo,.int .i64 x.hi],λ_ _=>[],λ_ _=>rfl⟩
abbrev jI(x:bA)(v1 v2:Value):List Value:=[.string x.name,.string x.on,.int .i64 x.kind,.int .i64 x.family,v1,v2,.int .i64 x.set,.int .i64 x.other,.int .i64 x.op,.int .i64 x.n,.string x.dm,.int .i64 x.aQ]
def aY:Enc bA:=⟨12,Value×Value,λx v=>jI x v.1 v.2,λx v=>[ai bD v.1 x.names,ai bD v.2 x.others],λ_ _=>rfl⟩
abbrev gu(d:bE)(vh vs vr vc vu:Value):List Value:=[.string d.name,.int .i64 d.version,.int .i64 d.shape,.int .i64 d.w,.int .i64 d.h,vh,vs,vr,vc,vu]
abbrev lZ(d:bE)(vh vs vr vc vu:Value):List aK:=[ai ae vh d.holes,ai eP vs d.symbols,ai eZ vr d.regions,ai bP vc d.aJ,ai aY vu d.rules]
def dS(s:ByteArray):List ByteArray->Nat
 |[]=>0
 |a::l=>if s=a then 0 else dS s l+1
theorem w9{s:ByteArray}:∀{l:List ByteArray},s∈l->dS s l<l.length
 |[],h=>by cases h
 |a::l,h=>by
  unfold dS;split
  ·simp
  ·rename_i hne;have:=w9 ((dH.1 h).resolve_left hne);simp;omega
def fu(names:List ByteArray)(start:Nat):List (ByteArray×Value):=names.zipIdx.map λp=>(p.1,.int .i64 ((start+p.2:Nat):Int))
theorem MK(a b:List ByteArray)(start:Nat):fu (a++b) start=fu a start++fu b (start+a.length):=by
 unfold fu;rw[OW,fD];congr 1;rw[show b.zipIdx (0+a.length)=(b.zipIdx 0).map (λp=>(p.1,p.2+a.length))by
  rw[fC];conv=>lhs;rw[show a.length=0+a.length by omega]
  rw[List.zipIdx_eq_map_add];apply AY;rintro⟨s,i⟩ _;simp only;rw[show 0+a.length+i=i+a.length by omega]]
 rw[xS];apply AY;rintro⟨s,i⟩ _;simp only[Function.comp];rw[show start+(i+a.length)=start+a.length+i by omega]
theorem sW(names:List ByteArray)(start:Nat):(fu names start).map (·.1)=names:=by
 unfold fu;rw[xS];have:((λp:ByteArray×Value=>p.1)∘λp:ByteArray×Nat=>(p.1,Value.int .i64 ((start+p.2:Nat):Int)))=Prod.fst:=rfl;rw[this,List.zipIdx_map_fst]
variable{α:Type}
theorem xe{β:Type}[DecidableEq α](a b:α)(v:β)(l:List (α×β)):dG a ((b,v)::l)=if a=b then some v else dG a l:=rfl
theorem rE{α β:Type}[DecidableEq α]{a:α}:∀{l:List (α×β)},a∉l.map (·.1)->dG a l=none
 |[],_=>rfl
 |(b,v)::l,h=>by
  unfold dG;rw[if_neg (λe=>h (by rw[e];simp)),rE (λh2=>h (by simp only[ic];exact dA _ h2))]
theorem ED{α β:Type}[DecidableEq α]{a:α}:∀{l:List (α×β)},a∈l.map (·.1)->∃v,dG a l=some v
 |[],h=>by cases h
 |(b,v)::l,h=>by
  unfold dG;by_cases e:a=b
  ·exact⟨v,by rw[if_pos e]⟩
  ·obtain⟨u,hu⟩:=ED (l:=l) ((dH.1 h).resolve_left e);exact⟨u,by rw[if_neg e,hu]⟩
theorem xk{s:ByteArray}:∀{names:List ByteArray} {start:Nat},s∈names->dG s (fu names start)=some (.int .i64 ((start+dS s names:Nat):Int))
 |[],start,h=>by cases h
 |a::l,start,h=>by
  have e:fu (a::l) start=(a,.int .i64 ((start:Nat):Int))::fu l (start+1):=by
   have:=MK [a] l start;simpa[fu]using this
  rw[e];unfold dG dS;by_cases hs:s=a
  ·rw[if_pos hs,if_pos hs];rfl
  ·rw[if_neg hs,if_neg hs,xk ((dH.1 h).resolve_left hs),show start+1+dS s l=start+(dS s l+1)by omega]
theorem Ce{α β:Type}[DecidableEq α]{a:α}{v:β}:∀{l:List (α×β)},a∉l.map (·.1)->upd a v l=l++[(a,v)]
 |[],_=>rfl
 |(b,u)::l,h=>by
  unfold upd;rw[if_neg (λe=>h (by rw[e];simp)),Ce (λh2=>h (by simp only[ic];exact dA _ h2))];rfl
def iG:List ByteArray:=[⟨⟨[99,101,108,108,115]⟩⟩,⟨⟨[114,111,119,115]⟩⟩,⟨⟨[99,111,108,117,109,110,115]⟩⟩,⟨⟨[100,105,97,103,111,110,97,108,115]⟩⟩,⟨⟨[97,114,111,117,110,100]⟩⟩,⟨⟨[110,101,97,114]⟩⟩,⟨⟨[112,97,105,114,115]⟩⟩,⟨⟨[97,108,108]⟩⟩]
def bN(d:bE):List ByteArray:=d.symbols.map (·.name)
def bX(d:bE):List ByteArray:=iG++d.regions.map (·.name)
def dI(d:bE):List ByteArray:=d.aJ.map (·.name)
def ny(d:bE):List ByteArray:=d.rules.map (·.name)
def fG(dJ l:List ByteArray):Nat:=l.foldl (λm s=>m|||1<<<dS s dJ) 0
def lI(iK:List ByteArray)(c:iJ):iJ:={c with family:=(dS c.on iK:Int)}
def mI(dJ iK jR:List ByteArray)(r:bA):bA:=
 {r with family:=if r.on=⟨⟨[]⟩⟩then 0 else(dS r.on iK:Int),aQ:=if r.dm=⟨⟨[]⟩⟩then -1 else(dS r.dm jR:Int),set:=(fG dJ r.names:Int),other:=(fG dJ r.others:Int)}
def bF(d:bE):bE:={d with aJ:=d.aJ.map (lI (bX d)),rules:=d.rules.map (mI (bN d) (bX d) (dI d))}
structure Af(dJ iK jR:List ByteArray)(r:bA):Prop where
 on:r.on=⟨⟨[]⟩⟩\/r.on∈iK
 names:∀s∈r.names,s∈dJ
 others:∀s∈r.others,s∈dJ
 dm:r.dm=⟨⟨[]⟩⟩\/r.dm∈jR
structure Cf(d:bE):Prop where
 dJ:d.symbols.length<=16
 Td:(bN d).Nodup
 Te:(bX d).Nodup
 Tf:(dI d).Nodup
 ML:∀c∈d.aJ,c.on∈bX d
 Tg:(ny d).Nodup
 nA:∀r∈d.rules,Af (bN d) (bX d) (dI d) r
def jo{α:Type}(f:α->α)(k:Nat)(xs:List α):List α:=(xs.take k).map f++xs.drop k
theorem Ti(f:α->α)(xs:List α):jo f xs.length xs=xs.map f:=by simp[jo]
theorem yN(f:α->α)(k:Nat)(xs:List α):(jo f k xs).length=xs.length:=by simp[jo];omega
theorem Tj(f:α->α){k:Nat}{xs:List α}(hk:k<xs.length):(jo f k xs)[k]? =xs[k]?:=by
 unfold jo;rw[qa wx,cz,ig,ahv vj,ww,qK,AV]
theorem Tk(f:α->α){k:Nat}{xs:List α}{x:α}(hx:xs[k]? =some x):(jo f k xs).set k (f x)=jo f (k+1) xs:=by
 have hk:=(bC.1 hx).1;unfold jo;rw[JU _ _ wx,cz,ig,ahv vj,ww];have hd:xs.drop k=x::xs.drop (k+1):=by
  rw[wz hk];congr 1;rw[bW hk]at hx;exact Option.some.inj hx
 rw[hd,nE,hx,fD];simp
end Kd
namespace Kd
open Go Go.Ideal
structure om(s w h:Int)(holes:List Int):Prop where
 sh:s=1\/s=2
 wi:1<=w/\w<=16
 he:1<=h/\h<=16
 len:(holes.length:Int)<w*h
 inc:holes.Pairwise (·<·)
 mem:∀x∈holes,0<=x/\x<w*h
def gp(n:Nat)(holes:List Int):List Int:=((List.range n).map λi:Nat=>(i:Int)).filter λi=>!decide (i∈holes)
theorem Iy(n:Nat)(holes:List Int):gp (n+1) holes=gp n holes++if(n:Int)∈holes then[]else[(n:Int)]:=by
 unfold gp;rw[JW,fD,FJ];congr 1;by_cases h:(n:Int)∈holes
 ·simp[h]
 ·simp[h]
theorem Cg(n:Nat)(holes:List Int):(gp n holes).length<=n:=by
 unfold gp;refine oW (OX _ _) ?_;simp
variable{n:Nat}{x:Int}
theorem Tm{holes:List Int}(h:x∈gp n holes):0<=x/\x<n/\x∉holes:=by
 unfold gp at h;obtain⟨h1,h2⟩:=rY.1 h;obtain⟨i,hi,rfl⟩:=eG.1 h1;have:=oZ.1 hi;exact⟨vj,vj,zj⟩
theorem Iz(n:Nat)(holes:List Int):(gp n holes).Pairwise (·<·):=by
 unfold gp;refine List.Pairwise.filter _ ?_;exact nw
def l5(w h:Int)(holes:List Int):List Int:=gp (w*h).toNat holes
theorem vH{w h:Int}(hw:1<=w/\w<=16)(hh:1<=h/\h<=16):1<=w*h/\w*h<=256:=by
 have h1:1*1<=w*h:=Int.mul_le_mul hw.1 hh.1 vj vj;have h2:w*h<=16*16:=Int.mul_le_mul hw.2 hh.2 vj vj;omega
structure eD(g:bz):Prop where
 make:om g.shape g.w g.h g.holes
 cells:g.cells=l5 g.w g.h g.holes
variable{g:bz}
theorem eD.cell(h:eD g):∀x∈g.cells,0<=x/\x<256:=by
 intro x hx;rw[h.cells]at hx;have h1:=Tm hx;have h2:=vH h.make.wi h.make.he;omega
theorem eD.len(h:eD g):g.cells.length<=256:=by
 rw[h.cells];have h1:=Cg (g.w*g.h).toNat g.holes;have h2:=vH h.make.wi h.make.he;unfold l5;omega
def nC(g:bz)(pos:Int):Int×Int:=(if g.shape=2 then pos.tmod g.w - (pos.tdiv g.w).tdiv 2 else pos.tmod g.w,pos.tdiv g.w)
def bB(g:bz):List (Int×(Int×Int)):=g.cells.zipIdx.map λp=>((p.2:Int),nC g p.1)
variable{k:Nat}
theorem xm(h:g.cells[k]? =some x):(bB g)[k]? =some ((k:Int),nC g x):=by
 unfold bB;rw[dK,List.getElem?_zipIdx,h];simp
theorem pM(g:bz):(bB g).length=g.cells.length:=by simp[bB]
theorem Tn{a b:List Int}(h:a.Perm b):bM a=bM b:=by
 have h1:(bM a).Perm (bM b):=(zl a _).trans (h.trans (zl b _).symm);have s1:(bM a).Pairwise (λx y=>x<=y):=by
  have:=WK (le:=λx y:Int=>decide (x<=y)) (λa b c h1 h2=>by simp at h1 h2⊢;omega) (λa b=>by simp;omega) a;exact tA
 have s2:(bM b).Pairwise (λx y=>x<=y):=by
  have:=WK (le:=λx y:Int=>decide (x<=y)) (λa b c h1 h2=>by simp at h1 h2⊢;omega) (λa b=>by simp;omega) b;exact tA
 generalize bM a=u at h1 s1;generalize bM b=v at h1 s2;clear h;induction u generalizing v with
 |nil=>exact(List.nil_perm.1 h1).symm▸rfl
 |cons x u ih=>
  cases v with
  |nil=>exact absurd h1.length_eq vm
  |cons y v=>
   have hxy:x=y:=by
    have hx:x∈y::v:=h1.mem_iff.1 (cZ ..);have hy:y∈x::u:=h1.mem_iff.2 (cZ ..);rcases dH.1 hx with e|hx
    ·exact e
    rcases dH.1 hy with e|hy
    ·exact e.symm
    have:=(rZ.1 s1).1 y hy;have:=(rZ.1 s2).1 x hx;omega
   subst hxy;rw[ih (rZ.1 s1).2 v ((List.perm_cons x).1 h1) (rZ.1 s2).2]
def dZ:List (Int×Int):=[(1,0),(-1,0),(0,1),(0, -1),(1, -1),(-1,1)]
def dP(g:bz):Nat:=if g.shape=1 then 4 else 6
def fo(xs:List (Int×(Int×Int))):List ((Int×Int)×Value):=xs.foldl (λm p=>upd p.2 (.int .i64 p.1) m) []
theorem MM(xs:List (Int×(Int×Int)))(p:Int×(Int×Int)):fo (xs++[p])=upd p.2 (.int .i64 p.1) (fo xs):=by
 unfold fo;rw[FK];rfl
theorem Tp{xs:List (Int×(Int×Int))}:∀a v,dG a (fo xs)=some v->∃c,v=.int .i64 c/\∃p∈xs,p.1=c:=by
 have hup:∀(m:List ((Int×Int)×Value)) (b:Int×Int) (u:Value) (a:Int×Int) (v:Value),dG a (upd b u m)=some v->(a=b/\v=u)\/dG a m=some v:=by
  intro m;induction m with
  |nil=>
   intro b u a v h;have h:(if a=b then some u else none)=some v:=h;by_cases e:a=b
   ·rw[if_pos e]at h;exact .inl ⟨e,(Option.some.inj h).symm⟩
   ·rw[if_neg e]at h;cases h
  |cons q m ih=>
   intro b u a v h;obtain⟨k,w⟩:=q;unfold upd at h;by_cases e:b=k
   ·rw[if_pos e,xe]at h;by_cases e2:a=b
    ·rw[if_pos e2]at h;exact .inl ⟨e2,(Option.some.inj h).symm⟩
    ·rw[if_neg e2]at h;right;rw[xe,if_neg (λe3=>e2 (e3.trans e.symm))];exact h
   ·rw[if_neg e,xe]at h;by_cases e2:a=k
    ·rw[if_pos e2]at h;right;rw[xe,if_pos e2];exact h
    ·rw[if_neg e2]at h;rcases ih b u a v h with h|h
     ·exact .inl h
     ·right;rw[xe,if_neg e2];exact h
 unfold fo;have:∀(xs:List (Int×(Int×Int))) (m:List ((Int×Int)×Value)) a v,dG a (xs.foldl (λm p=>upd p.2 (.int .i64 p.1) m) m)=some v->(∃c,v=.int .i64 c/\∃p∈xs,p.1=c)\/dG a m=some v:=by
  intro xs;induction xs with
  |nil=>intro m a v h;exact .inr h
  |cons p xs ih=>
   intro m a v h;rw[tN]at h;rcases ih _ a v h with⟨c,h1,q,hq,h2⟩|h
   ·exact .inl ⟨c,h1,q,dA _ hq,h2⟩
   ·rcases hup m p.2 _ a v h with⟨_,h1⟩|h
    ·exact .inl ⟨p.1,h1,p,cZ ..,rfl⟩
    ·exact .inr h
 intro a v h;rcases this xs [] a v h with h|h
 ·exact h
 ·cases h
def numOf:Option Value->Option Int
 |some (.int .i64 n)=>some n
 |_=>none
def fT(m:List ((Int×Int)×Value))(s:Int×Int)(ds:List (Int×Int)):List Int:=ds.filterMap λd=>numOf (dG (s.1+d.1,s.2+d.2) m)
theorem acV(m:List ((Int×Int)×Value))(s:Int×Int)(ds:List (Int×Int))(d:Int×Int):fT m s (ds++[d])=fT m s ds++(numOf (dG (s.1+d.1,s.2+d.2) m)).toList:=by
 unfold fT;rw[List.filterMap_append];congr 1
theorem IA(m:List ((Int×Int)×Value))(s:Int×Int)(ds:List (Int×Int)):(fT m s ds).length<=ds.length:=List.length_filterMap_le _ _
def lJ(g:bz)(p:Int×(Int×Int)):List Int:=bM (fT (fo (bB g)) p.2 (dZ.take (dP g)))
def bI(g:bz):List (List Int):=(bB g).map (lJ g)
theorem IB(h:eD g):∀p∈bB g,(0<=p.1/\p.1<256)/\(-256<=p.2.1/\p.2.1<256)/\(0<=p.2.2/\p.2.2<256):=by
 intro p hp;obtain⟨k,hk⟩:=uW.1 hp;have hkl:=(bC.1 hk).1;rw[pM]at hkl;have hx:g.cells[k]? =some g.cells[k]:=bW hkl;rw[xm hx]at hk;cases hk;have hb:=h.cell _ (aP hx);have hl:=h.len;generalize g.cells[k]=x at hb;have hw:=h.make.wi;have hq:0<=x.tdiv g.w/\x.tdiv g.w<=x:=by
  rw[tQ hb.1];exact⟨JX hb.1 vj,Int.ediv_le_self _ hb.1⟩
 have hr:0<=x.tmod g.w/\x.tmod g.w<=x:=by
  rw[CW hb.1];refine⟨Int.emod_nonneg _ vj,?_⟩;have:=OY x g.w;have h3:0<=g.w*(x/g.w):=Int.mul_nonneg vj (JX hb.1 vj);omega
 have hq2:0<=(x.tdiv g.w).tdiv 2/\(x.tdiv g.w).tdiv 2<=x.tdiv g.w:=by
  rw[tQ hq.1];omega
 unfold nC;dsimp only;refine⟨vj,?_,vj⟩;split<;>omega
def MN:Enc (Int×Int):=⟨2,Unit,λx _=>[.int .i64 x.1,.int .i64 x.2],λ_ _=>[],λ_ _=>rfl⟩
abbrev Ch:List Value:=[.int .i64 1,.int .i64 0,.int .i64 (-1),.int .i64 0,.int .i64 0,.int .i64 1,.int .i64 0,.int .i64 (-1),.int .i64 1,.int .i64 (-1),.int .i64 (-1),.int .i64 1]
variable{b m:Nat}
theorem acW{w:Wd}(h:(fA b 0 Ch).p w)(hm:m<=6):(ai MN (.slice (some ⟨b,0,some 0⟩) m 6) (dZ.take m)).p w:=by
 obtain⟨cells,h1,h2⟩:=h;have hl:(dZ.take m).length=m:=by rw[ig];show min m 6=m;omega
 refine .inr ⟨b,0,0,6,cells,⟨by rw[hl],by rw[hl];exact hm,.inl rfl⟩,h1,λk x hk=>⟨(),λj u hj=>?_,λf hf=>by cases hf⟩⟩;have hk':dZ[k]? =some x:=by
  rw[tO]at hk;split at hk
  ·exact hk
  ·cases hk
 have:=h2 (k*2+j) u (Ac (E:=MN) (aF:=dZ.map λd=>(d,())) (k:=k) (p:=(x,())) (by rw[dK,hk'];rfl) hj);show cells[0+k*2+j]? =_;rw[show 0+k*2+j=0+(k*2+j)by omega];exact this
theorem acX:∀d∈dZ,(-1<=d.1/\d.1<=1)/\(-1<=d.2/\d.2<=1):=wj
theorem acY{j:Nat}{d:Int×Int}(h:dZ[j]? =some d):jd (jE Ch (j*2)) 2=some [.int .i64 d.1,.int .i64 d.2]:=by
 have hj:j<6:=(bC.1 h).1;match j,hj with
 |0,_=>cases h;rfl
 |1,_=>cases h;rfl
 |2,_=>cases h;rfl
 |3,_=>cases h;rfl
 |4,_=>cases h;rfl
 |5,_=>cases h;rfl
variable{α:Type}
theorem bU{xs:List α}{x:α}(h:xs[k]? =some x):xs.take (k+1)=xs.take k++[x]:=by
 rw[nE,h];rfl
theorem Ag(g:bz):dP g<=6:=by unfold dP;split<;>omega
theorem acZ{P:Program}{ρ:Operand->Value}{x hi:Operand}{size:Nat}(hx:ρ x=.pointer (some ⟨b,0,none⟩))(hh:ρ hi=.int .i64 (m:Int))(hm:m<=n):Pu P ρ (.J2 n size x none (some hi) none) (.slice (some ⟨b,0,some 0⟩) m n):=λh=>by
 have hb:bounds? n n none (some (.int .i64 (m:Int))) none=some (0,m,n):=by
  show(match upTo n (.int .i64 (m:Int))with|none=>none|some hh=>_)=_;have:upTo n (.int .i64 (m:Int))=some m:=by
   show cond (Nat.ble m n) (some m) none=_;have:Nat.ble m n=true:=by rw[uR];exact hm
   rw[this];rfl
  rw[this]
 simp only[aB.run,hx,jf,hh,hb];show some (Value.slice (zq b (Nat.add 0 (Nat.mul 0 size))) (Nat.sub m 0) (Nat.sub n 0),h)=_;rw[show Nat.mul 0 size=0 from FI _];rfl
theorem xq{p:Int×(Int×Int)}(h:(bB g)[k]? =some p):p.1=(k:Int):=by
 have hk:=(bC.1 h).1;rw[pM]at hk;rw[xm (bW hk)]at h;cases h;rfl
theorem IC{vs rest:List (Int×(Int×Int))}{x:Int×(Int×Int)}(h:vs++x::rest=bB g):x.1=(vs.length:Int)/\vs.length<g.cells.length/\x∈bB g:=by
 have h1:(bB g)[vs.length]? =some x:=by rw[<- h];simp
 refine⟨xq h1,?_,aP h1⟩;have:=(bC.1 h1).1
 rwa [pM]at this
theorem Tq{A:List (List Int)}(h:A.length<n)(y:List Int):(A++List.replicate (n - A.length) []).set A.length y=(A++[y])++List.replicate (n - (A.length+1)) []:=by
 rw[JU _ _ (bV _),ww,show n - A.length=(n - (A.length+1))+1 by omega,FH,List.set_cons_zero];simp
theorem ac0{ws:List α}{v:α}(h:ws[k]? =some v):ws.set k v=ws:=by
 apply jv;intro i;rw[o9];by_cases e:k=i
 ·subst e;rw[if_pos rfl,if_pos (bC.1 h).1,h]
 ·rw[if_neg e]
theorem uC(g:bz):(bI g).length=g.cells.length:=by
 unfold bI;rw[cz,pM]
theorem ac3(g:bz):(bB g).foldl (λ(xss:List (List Int)) (x:Int×(Int×Int))=>xss.set x.1.toNat (lJ g x)) (List.replicate g.cells.length [])=bI g:=by
 have key:∀(rest vs:List (Int×(Int×Int))),vs++rest=bB g->rest.foldl (λ(xss:List (List Int)) (x:Int×(Int×Int))=>xss.set x.1.toNat (lJ g x)) (vs.map (lJ g)++List.replicate (g.cells.length - vs.length) [])=bI g:=by
  intro rest;induction rest with
  |nil=>
   intro vs h;rw[iI]at h;rw[List.foldl_nil,h,pM,ww,List.replicate_zero,iI];rfl
  |cons x rest ih=>
   intro vs h;have h1:=IC h;rw[tN,h1.1,gy];have h2:=Tq (A:=vs.map (lJ g)) (n:=g.cells.length) (by rw[cz];exact h1.2.1) (lJ g x);rw[cz]at h2;rw[h2];have h3:=ih (vs++[x]) (by rw[fU];exact h);rw[fD,iE]at h3;exact h3
 have:=key (bB g) [] rfl;rw[List.map_nil,dX,CQ,CR]at this;exact this
end Kd
namespace Kd
open Go Go.Ideal
theorem xu{α β:Type}[DecidableEq α](a b:α)(v:β):∀m:List (α×β),dG a (upd b v m)=if a=b then some v else dG a m
 |[]=>rfl
 |(k,w)::m=>by
  unfold upd;by_cases e:b=k
  ·rw[if_pos e,xe,xe];by_cases e2:a=b
   ·rw[if_pos e2,if_pos e2]
   ·rw[if_neg e2,if_neg e2,if_neg (λe3=>e2 (e3.trans e.symm))]
  ·rw[if_neg e,xe,xe,xu a b v m];by_cases e2:a=k
   ·rw[if_pos e2,if_pos e2,if_neg (λe3=>e (e3.symm.trans e2))]
   ·rw[if_neg e2,if_neg e2]
theorem Tt{α β:Type}[DecidableEq α](b:α)(v:β):∀m:List (α×β),(upd b v m).length<=m.length+1
 |[]=>bV _
 |(k,w)::m=>by
  unfold upd;by_cases e:b=k
  ·rw[if_pos e,oD,oD];omega
  ·rw[if_neg e,oD,oD];have:=Tt b v m;omega
def vJ(kf:Int×Int->Int×Bool)(m:List (Int×List Int))(p:Int×(Int×Int)):List (Int×List Int):=
 cond (kf p.2).2 (upd (kf p.2).1 ((dG (kf p.2).1 m).getD []++[p.1]) m) m
def ji(kf:Int×Int->Int×Bool)(ps:List (Int×(Int×Int))):List (Int×List Int):=ps.foldl (vJ kf) []
theorem EE(kf:Int×Int->Int×Bool)(ps:List (Int×(Int×Int)))(p:Int×(Int×Int)):ji kf (ps++[p])=vJ kf (ji kf ps) p:=by
 unfold ji;rw[FK];rfl
theorem MO(kf:Int×Int->Int×Bool)(n:Nat):∀ps:List (Int×(Int×Int)),ps.length=n->(ji kf ps).length<=ps.length/\∀a,((dG a (ji kf ps)).getD []).length<=ps.length:=by
 induction n with
 |zero=>
  intro ps h;rw[jw.1 h];exact⟨bV _,λa=>bV _⟩
 |succ n ih=>
  intro ps h;obtain⟨qs,p,rfl⟩:∃qs p,ps=qs++[p]:=⟨ps.dropLast,ps.getLast x6,(A8 _).symm⟩
  have hq:qs.length=n:=wq
  obtain⟨h1,h2⟩:=ih qs hq;rw[EE,iE,zk];unfold vJ;cases (kf p.2).2 with
  |false=>exact⟨by show(ji kf qs).length<=_;omega,λa=>by have:=h2 a;show((dG a (ji kf qs)).getD []).length<=_;omega⟩
  |true=>
   refine⟨?_,λa=>?_⟩
   ·have:=Tt (kf p.2).1 ((dG (kf p.2).1 (ji kf qs)).getD []++[p.1]) (ji kf qs);show(upd _ _ _).length<=_;omega
   ·show((dG a (upd _ _ _)).getD []).length<=_;rw[xu];by_cases e:a=(kf p.2).1
    ·rw[if_pos e,uT,iE,zk];have:=h2 (kf p.2).1;omega
    ·rw[if_neg e];have:=h2 a;omega
def iL(g:bz)(kf:Int×Int->Int×Bool):List (List Int):=(bM ((ji kf (bB g)).map (·.1))).map λn=>(dG n (ji kf (bB g))).getD []
variable{g:bz}
theorem IE(hg:eD g)(kf:Int×Int->Int×Bool):(iL g kf).length<=256/\∀l∈iL g kf,l.length<=256:=by
 have h:=MO kf _ (bB g) rfl;have hl:=hg.len;rw[pM]at h;unfold iL;refine⟨?_,λl hl2=>?_⟩
 ·rw[cz];have:(bM ((ji kf (bB g)).map (·.1))).length=((ji kf (bB g)).map (·.1)).length:=(zl _ _).length_eq;rw[this,cz];omega
 ·obtain⟨n,_,rfl⟩:=eG.1 hl2;have:=h.2 n;omega
def sZ(acc:List (List Int))(l:List Int):List (List Int):=if acc.head? =some l then acc else acc++[l]
def jJ(a b:List (List Int)):List (List Int):=b.foldl sZ a
variable{l:List Int}{k:Nat}
theorem Tu{a b:List (List Int)}(h:b[k]? =some l):jJ a (b.take (k+1))=sZ (jJ a (b.take k)) l:=by
 unfold jJ;rw[bU h,FK];rfl
theorem MP{a b:List (List Int)}{n:Nat}(ha:∀l∈a,l.length<=n)(hb:∀l∈b,l.length<=n):∀k,(jJ a (b.take k)).length<=a.length+k/\∀l∈jJ a (b.take k),l.length<=n
 |0=>⟨bV _,ha⟩
 |k+1=>by
  obtain⟨h1,h2⟩:=MP ha hb k;cases h:b[k]? with
  |none=>
   have:b.take (k+1)=b.take k:=by rw[nE,h];simp
   rw[this];exact⟨vj,h2⟩
  |some l=>
   rw[Tu h];unfold sZ;split
   ·exact⟨vj,h2⟩
   ·rw[iE,zk];refine⟨vj,λx hx=>?_⟩;rcases dW.1 hx with hx|hx
    ·exact h2 x hx
    ·rw[bK.1 hx];exact hb l (aP h)
def kK(g:bz):List (List Int):=
 if g.shape=2 then iL g (λs=>(s.1+s.2,true))
 else if g.w=g.h then jJ (iL g (λs=>(0,decide (s.1=s.2)))) (iL g (λs=>(0,decide (s.1+s.2=g.w - 1))))
 else[]
variable{x:Int}
theorem uD:x∈bM l↔x∈l:=(zl l _).mem_iff
theorem ac4:∀a c:Int,Value.int .i64 a=Value.int .i64 c->a=c:=λa c h=>by injection h
def lK(n:Nat):List (List Int):=(List.range n).map λi:Nat=>[(i:Int)]
theorem Tv(k:Nat):lK (k+1)=lK k++[[(k:Int)]]:=by
 unfold lK;rw[JW,fD];rfl
theorem MQ(k:Nat):(lK k).length=k:=by unfold lK;simp
def upTo'(n:Nat):List Int:=(List.range n).map λi:Nat=>(i:Int)
theorem vK(k:Nat):upTo' (k+1)=upTo' k++[(k:Int)]:=by
 unfold upTo';rw[JW,fD];rfl
theorem oO(k:Nat):(upTo' k).length=k:=by unfold upTo';simp
def kL(aD:List (List Int)):List (List Int):=aD.zipIdx.map λp=>bM (p.1++[(p.2:Int)])
variable{aD:List (List Int)}
theorem Tw(h:aD[k]? =some l):kL (aD.take (k+1))=kL (aD.take k)++[bM (l++[(k:Int)])]:=by
 have hk:=(bC.1 h).1;unfold kL;rw[bU h,OW,fD,ig,ahv vj];simp
theorem MS(aD:List (List Int)):(kL aD).length=aD.length:=by unfold kL;simp
def jc(i:Nat)(l:List Int):List (List Int):=(l.filter λj=>decide ((i:Int)<j)).map λj=>[(i:Int),j]
theorem Tx{i j:Nat}(h:l[j]? =some x):jc i (l.take (j+1))=jc i (l.take j)++if(i:Int)<x then[[(i:Int),x]]else[]:=by
 unfold jc;rw[bU h,FJ,fD];by_cases e:(i:Int)<x<;>simp[e]
theorem MU(i:Nat)(l:List Int):(jc i l).length<=l.length:=by
 unfold jc;rw[cz];exact OX _ _
def gZ(aD:List (List Int)):List (List Int):=aD.zipIdx.flatMap λp=>jc p.2 p.1
theorem MV(h:aD[k]? =some l):gZ (aD.take (k+1))=gZ (aD.take k)++jc k l:=by
 have hk:=(bC.1 h).1;unfold gZ;rw[bU h,OW,List.flatMap_append,ig,ahv vj];simp
theorem IG{aD:List (List Int)}(hn:∀l∈aD,l.length<=6):∀k,k<=aD.length->(gZ (aD.take k)).length<=6*k
 |0,_=>by simp[gZ]
 |k+1,hk=>by
  have h:aD[k]? =some aD[k]:=bW vj;have:=IG hn k vj;have h2:=MU k aD[k];have h3:=hn aD[k] (xP _);rw[MV h,iE];omega
theorem EF:∀l∈bI g,l.length<=6:=by
 intro l hl;obtain⟨p,_,rfl⟩:=eG.1 hl;unfold lJ;exact ir
def dx(g:bz)(k:Int):List (List Int):=
 if k=0 then lK g.cells.length
 else if k=1 then iL g (λs=>(s.2,true))
 else if k=2 then iL g (λs=>(s.1,true))
 else if k=3 then kK g
 else if k=4 then bI g
 else if k=5 then kL (bI g)
 else if k=6 then gZ (bI g)
 else[upTo' g.cells.length]
end Kd
namespace Kd
open Go Go.Ideal
def vM(p:Int):List Int->Nat
 |[]=>0
 |a::l=>if p=a then 0 else vM p l+1
theorem II{p:Int}:∀{l:List Int} {n:Nat},l.Pairwise (·<·)->l[n]? =some p->vM p l=n
 |[],n,_,h=>by simp at h
 |a::l,0,_,h=>by
  have h:a=p:=wq
  unfold vM;rw[if_pos h.symm]
 |a::l,n+1,hp,h=>by
  have h:l[n]? =some p:=wq
  have h1:=(rZ.1 hp).1 p (aP h);unfold vM;rw[if_neg vj,II (rZ.1 hp).2 h]
theorem MW{p:Int}:∀{l:List Int},p∈l->vM p l<l.length
 |[],h=>by cases h
 |a::l,h=>by
  unfold vM;by_cases e:p=a
  ·rw[if_pos e,oD];omega
  ·rw[if_neg e,oD];have:=MW (p:=p) (l:=l) ((dH.1 h).resolve_left e);omega
def yO(xs:List Int):List (Int×Value):=xs.foldl (λm c=>upd c (.bool true) m) []
theorem Ty(xs:List Int)(c:Int):yO (xs++[c])=upd c (.bool true) (yO xs):=by
 unfold yO;rw[FK];rfl
theorem ac5(c:Int)(n:Nat):∀xs:List Int,xs.length=n->dG c (yO xs)=if c∈xs then some (.bool true)else none:=by
 induction n with
 |zero=>
  intro xs h;rw[jw.1 h];rfl
 |succ n ih=>
  intro xs h;obtain⟨ys,p,rfl⟩:∃ys p,xs=ys++[p]:=⟨xs.dropLast,xs.getLast x6,(A8 _).symm⟩
  rw[Ty,xu,ih ys wq];by_cases e:c=p
  ·subst e;simp
  ·simp[e]
theorem ac6(c:Int)(xs:List Int):kG false (.bool false) c (yO xs)=.bool (decide (c∈xs)):=by
 unfold kG;rw[ac5 c _ xs rfl];by_cases e:c∈xs
 ·rw[if_pos e,eY e];rfl
 ·rw[if_neg e,aS e];rfl
theorem Tz:∀(m:Nat) (l:List Int),l.Nodup->(∀x∈l,0<=x/\x<(m:Int))->l.length<=m:=by
 intro m;induction m with
 |zero=>
  intro l _ h;cases l with
  |nil=>exact bV _
  |cons x l=>have:=h x (cZ ..);omega
 |succ m ih=>
  intro l hn h;have h1:=ih (l.erase (m:Int)) (hn.erase _) (λx hx=>by
   have:=h x (List.mem_of_mem_erase hx);have hne:x≠(m:Int):=λe=>by subst e;exact(List.Nodup.mem_erase_iff hn).1 hx|>.1 rfl
   omega)
  rw[List.length_erase]at h1;split at h1<;>omega
structure yP(g:bz)(ps:List Int):Prop where
 ne:ps≠[]
 mem:∀p∈ps,p∈g.cells
 nd:(ps.map λp=>(vM p g.cells:Int)).Nodup
structure vN(g:bz)(rs:List (List Int)):Prop where
 len:rs.length<=64
 all:∀ps∈rs,yP g ps
def eT(g:bz)(ps:List Int):List Int:=ps.map λp=>(vM p g.cells:Int)
def dU(g:bz)(rs:List (List Int)):List (List Int):=rs.map (eT g)
theorem IJ{g:bz}{ps:List Int}(hm:∀p∈ps,p∈g.cells)(hn:(eT g ps).Nodup):ps.length<=g.cells.length:=by
 have:=Tz g.cells.length (eT g ps) hn (λx hx=>by
  obtain⟨p,hp,rfl⟩:=eG.1 hx;have:=MW (hm p hp);omega)
 unfold eT at this
 rwa [cz]at this
end Kd
namespace Kd
open Go Go.Ideal
def uE(xs:List Int):List (Int×Value):=(xs.foldl (λs c=>(upd c (.int .i64 ((s.2.count c:Nat)+1)) s.1,s.2++[c])) (([]:List (Int×Value)),([]:List Int))).1
theorem ac7(xs:List Int):∀(m:List (Int×Value)) (ys:List Int),(xs.foldl (λs c=>(upd c (.int .i64 ((s.2.count c:Nat)+1)) s.1,s.2++[c])) (m,ys)).2=ys++xs:=by
 induction xs with
 |nil=>intro m ys;simp
 |cons x xs ih=>intro m ys;rw[tN,ih];simp
theorem TA(xs:List Int)(c:Int):uE (xs++[c])=upd c (.int .i64 ((xs.count c:Nat)+1)) (uE xs):=by
 unfold uE;rw[FK,tN,List.foldl_nil];show upd c _ _=_;rw[ac7,dX]
theorem ac8(c:Int)(n:Nat):∀xs:List Int,xs.length=n->dG c (uE xs)=if c∈xs then some (.int .i64 (xs.count c:Nat))else none:=by
 induction n with
 |zero=>
  intro xs h;rw[jw.1 h];rfl
 |succ n ih=>
  intro xs h;obtain⟨ys,p,rfl⟩:∃ys p,xs=ys++[p]:=⟨xs.dropLast,xs.getLast x6,(A8 _).symm⟩
  rw[TA,xu,ih ys wq];by_cases e:c=p
  ·subst e;simp
  ·have e2:¬p=c:=λh=>e h.symm;simp[e,e2,List.count_cons,List.count_append]
theorem TB(c:Int)(xs:List Int):kG false (.int .i64 0) c (uE xs)=.int .i64 (xs.count c:Nat):=by
 unfold kG;rw[ac8 c _ xs rfl];by_cases e:c∈xs
 ·rw[if_pos e];rfl
 ·rw[if_neg e,List.count_eq_zero_of_not_mem e];rfl
theorem TC(c:Int)(xs:List Int):xs.count c<=xs.length:=List.count_le_length ..
def aO(d:bE):bz:=⟨d.shape,d.w,d.h,d.holes,l5 d.w d.h d.holes⟩
def lc(d:bE):List (List (List Int)):=((List.range 8).map λf:Nat=>dx (aO d) (f:Int))++d.regions.map λr=>dU (aO d) r.lists
def j6(d:bE):bS:=⟨d,aO d,bI (aO d),lc d⟩
