/-
  Kinds, in plain lists: declarations, how names are resolved; how they lie in cells.
-/
import Derived.Test.YtoohgkkmdnbnfaaGreatDoorIdealNE
set_option linter.all false
namespace Kd
open Go Go.Ideal
structure lV where
 name:ByteArray
 value:Int
 deriving DecidableEq
structure lW where
 name:ByteArray
 lists:List (List Int)
 deriving DecidableEq
structure ji where
 name:ByteArray
 on:ByteArray
 family:Int
 type:Int
 lo:Int
 hi:Int
 deriving DecidableEq
structure aW where
 name:ByteArray
 on:ByteArray
 kind:Int
 family:Int
 names:List ByteArray
 others:List ByteArray
 set:Int
 other:Int
 op:Int
 n:Int
 eU:ByteArray
 aJ:Int
 deriving DecidableEq
structure bR where
 name:ByteArray
 version:Int
 shape:Int
 w:Int
 h:Int
 holes:List Int
 symbols:List lV
 regions:List lW
 bI:List ji
 rules:List aW
 deriving DecidableEq
structure bO where
 shape:Int
 w:Int
 h:Int
 holes:List Int
 cells:List Int
 deriving DecidableEq
structure bP where
 decl:bR
 grid:bO
 aK:List (List Int)
 lists:List (List (List Int))
 deriving DecidableEq
def jM:Enc lV:=⟨2,Unit,λx _=>[.string x.name,.int .i64 x.value],λ_ _=>[],λ_ _=>rfl⟩
def iV:Enc lW:=⟨2,Value,λx v=>[.string x.name,v],λx v=>[ai (aC ae) v x.lists],λ_ _=>rfl⟩
def dH:Enc ji:=⟨6,Unit,λx _=>[.string x.name,.string x.on,.int .i64 x.family,.int .i64 x.type,.int .i64 x.lo,.int .i64 x.hi],λ_ _=>[],λ_ _=>rfl⟩
abbrev jX(x:aW)(v1 v2:Value):List Value:=[.string x.name,.string x.on,.int .i64 x.kind,.int .i64 x.family,v1,v2,.int .i64 x.set,.int .i64 x.other,.int .i64 x.op,.int .i64 x.n,.string x.eU,.int .i64 x.aJ]
def bq:Enc aW:=⟨12,Value×Value,λx v=>jX x v.1 v.2,λx v=>[ai bV v.1 x.names,ai bV v.2 x.others],λ_ _=>rfl⟩
abbrev jY(d:bR)(vh vs vr vc vu:Value):List Value:=[.string d.name,.int .i64 d.version,.int .i64 d.shape,.int .i64 d.w,.int .i64 d.h,vh,vs,vr,vc,vu]
abbrev nT(d:bR)(vh vs vr vc vu:Value):List aB:=[ai ae vh d.holes,ai jM vs d.symbols,ai iV vr d.regions,ai dH vc d.bI,ai bq vu d.rules]
def gX(s:ByteArray):List ByteArray->Nat
 |[]=>0
 |a::l=>if s=a then 0 else gX s l+1
theorem yo{s:ByteArray}:∀{l:List ByteArray},s∈l->gX s l<l.length
 |[],h=>by cases h
 |a::l,h=>by
  unfold gX;split
  ·simp
  ·rename_i hne;have:=yo ((cK.1 h).resolve_left hne);simp;omega
def dL(names:List ByteArray)(start:Nat):List (ByteArray×Value):=names.zipIdx.map λp=>(p.1,.int .i64 ((start+p.2:Nat):Int))
theorem JM(a b:List ByteArray)(start:Nat):dL (a++b) start=dL a start++dL b (start+a.length):=by
 unfold dL;rw[Bt,dM];congr 1;rw[show b.zipIdx (0+a.length)=(b.zipIdx 0).map (λp=>(p.1,p.2+a.length))by
  rw[eG];conv=>lhs;rw[show a.length=0+a.length by omega]
  rw[List.zipIdx_eq_map_add];apply Gq;rintro⟨s,i⟩ _;simp only;rw[show 0+a.length+i=i+a.length by omega]]
 rw[sU];apply Gq;rintro⟨s,i⟩ _;simp only[Function.comp];rw[show start+(i+a.length)=start+a.length+i by omega]
theorem qm(names:List ByteArray)(start:Nat):(dL names start).map (·.1)=names:=by
 unfold dL;rw[sU];have:((λp:ByteArray×Value=>p.1)∘λp:ByteArray×Nat=>(p.1,Value.int .i64 ((start+p.2:Nat):Int)))=Prod.fst:=rfl;rw[this,List.zipIdx_map_fst]
theorem uu{α β:Type}[DecidableEq α](a b:α)(v:β)(l:List (α×β)):bW a ((b,v)::l)=if a=b then some v else bW a l:=rfl
theorem oQ{α β:Type}[DecidableEq α]{a:α}:∀{l:List (α×β)},a∉l.map (·.1)->bW a l=none
 |[],_=>rfl
 |(b,v)::l,h=>by
  unfold bW;rw[if_neg (λe=>h (by rw[e];simp)),oQ (λh2=>h (by simp only[fG];exact bB _ h2))]
theorem CZ{α β:Type}[DecidableEq α]{a:α}:∀{l:List (α×β)},a∈l.map (·.1)->∃v,bW a l=some v
 |[],h=>by cases h
 |(b,v)::l,h=>by
  unfold bW;by_cases e:a=b
  ·exact⟨v,by rw[if_pos e]⟩
  ·obtain⟨u,hu⟩:=CZ (l:=l) ((cK.1 h).resolve_left e);exact⟨u,by rw[if_neg e,hu]⟩
theorem uw{s:ByteArray}:∀{names:List ByteArray} {start:Nat},s∈names->bW s (dL names start)=some (.int .i64 ((start+gX s names:Nat):Int))
 |[],start,h=>by cases h
 |a::l,start,h=>by
  have e:dL (a::l) start=(a,.int .i64 ((start:Nat):Int))::dL l (start+1):=by
   have:=JM [a] l start;simpa[dL]using this
  rw[e];unfold bW gX;by_cases hs:s=a
  ·rw[if_pos hs,if_pos hs];rfl
  ·rw[if_neg hs,if_neg hs,uw ((cK.1 h).resolve_left hs),show start+1+gX s l=start+(gX s l+1)by omega]
theorem AB{α β:Type}[DecidableEq α]{a:α}{v:β}:∀{l:List (α×β)},a∉l.map (·.1)->upd a v l=l++[(a,v)]
 |[],_=>rfl
 |(b,u)::l,h=>by
  unfold upd;rw[if_neg (λe=>h (by rw[e];simp)),AB (λh2=>h (by simp only[fG];exact bB _ h2))];rfl
def yu:List ByteArray:=[⟨⟨[99,101,108,108,115]⟩⟩,⟨⟨[114,111,119,115]⟩⟩,⟨⟨[99,111,108,117,109,110,115]⟩⟩,⟨⟨[100,105,97,103,111,110,97,108,115]⟩⟩,⟨⟨[97,114,111,117,110,100]⟩⟩,⟨⟨[110,101,97,114]⟩⟩,⟨⟨[112,97,105,114,115]⟩⟩,⟨⟨[97,108,108]⟩⟩]
def gD(d:bR):List ByteArray:=d.symbols.map (·.name)
def fw(d:bR):List ByteArray:=yu++d.regions.map (·.name)
def jk(d:bR):List ByteArray:=d.bI.map (·.name)
def Fq(d:bR):List ByteArray:=d.rules.map (·.name)
def jl(dA l:List ByteArray):Nat:=l.foldl (λm s=>m|||1<<<gX s dA) 0
def AC(oU:List ByteArray)(c:ji):ji:={c with family:=(gX c.on oU:Int)}
def qY(dA oU jZ:List ByteArray)(r:aW):aW:=
 {r with family:=if r.on=⟨⟨[]⟩⟩then 0 else(gX r.on oU:Int),aJ:=if r.eU=⟨⟨[]⟩⟩then -1 else(gX r.eU jZ:Int),set:=(jl dA r.names:Int),other:=(jl dA r.others:Int)}
def cB(d:bR):bR:={d with bI:=d.bI.map (AC (fw d)),rules:=d.rules.map (qY (gD d) (fw d) (jk d))}
structure JN(dA oU jZ:List ByteArray)(r:aW):Prop where
 on:r.on=⟨⟨[]⟩⟩\/r.on∈oU
 names:∀s∈r.names,s∈dA
 others:∀s∈r.others,s∈dA
 eU:r.eU=⟨⟨[]⟩⟩\/r.eU∈jZ
structure AJ(d:bR):Prop where
 dA:d.symbols.length<=16
 ZO:(gD d).Nodup
 ZP:(fw d).Nodup
 ZQ:(jk d).Nodup
 QY:∀c∈d.bI,c.on∈fw d
 ZR:(Fq d).Nodup
 uy:∀r∈d.rules,JN (gD d) (fw d) (jk d) r
def iE{α:Type}(f:α->α)(k:Nat)(xs:List α):List α:=(xs.take k).map f++xs.drop k
theorem QZ{α:Type}(f:α->α)(xs:List α):iE f xs.length xs=xs.map f:=by simp[iE]
theorem wh{α:Type}(f:α->α)(k:Nat)(xs:List α):(iE f k xs).length=xs.length:=by simp[iE];omega
theorem Q0{α:Type}(f:α->α){k:Nat}{xs:List α}(hk:k<xs.length):(iE f k xs)[k]? =xs[k]?:=by
 unfold iE;rw[pq (by simp;omega),bT,jE,yT (by omega),yS,oq,yO]
theorem Q3{α:Type}(f:α->α){k:Nat}{xs:List α}{x:α}(hx:xs[k]? =some x):(iE f k xs).set k (f x)=iE f (k+1) xs:=by
 have hk:=(bA.1 hx).1;unfold iE;rw[List.set_append_right _ _ (by simp;omega),bT,jE,yT (by omega),yS];have hd:xs.drop k=x::xs.drop (k+1):=by
  rw[rM hk];congr 1;rw[dz hk]at hx;exact Option.some.inj hx
 rw[hd,mg,hx,dM];simp
end Kd
namespace Kd
open Go Go.Ideal
structure oV(s w h:Int)(holes:List Int):Prop where
 sh:s=1\/s=2
 wi:1<=w/\w<=16
 he:1<=h/\h<=16
 len:(holes.length:Int)<w*h
 inc:holes.Pairwise (·<·)
 mem:∀x∈holes,0<=x/\x<w*h
def iF(n:Nat)(holes:List Int):List Int:=((List.range n).map λi:Nat=>(i:Int)).filter λi=>!decide (i∈holes)
theorem Q4(n:Nat)(holes:List Int):iF (n+1) holes=iF n holes++if(n:Int)∈holes then[]else[(n:Int)]:=by
 unfold iF;rw[List.range_succ,dM,Gy];congr 1;by_cases h:(n:Int)∈holes
 ·simp[h]
 ·simp[h]
theorem Fs(n:Nat)(holes:List Int):(iF n holes).length<=n:=by
 unfold iF;refine lF (GD _ _) ?_;simp
theorem ZT{n:Nat}{holes:List Int}{x:Int}(h:x∈iF n holes):0<=x/\x<n/\x∉holes:=by
 unfold iF at h;obtain⟨h1,h2⟩:=Br.1 h;obtain⟨i,hi,rfl⟩:=ed.1 h1;have:=yQ.1 hi;exact⟨by omega,by omega,by simpa using h2⟩
theorem Q5(n:Nat)(holes:List Int):(iF n holes).Pairwise (·<·):=by
 unfold iF;refine List.Pairwise.filter _ ?_;rw[List.pairwise_map];exact List.Pairwise.imp (λh=>by omega) List.pairwise_lt_range
def nU(w h:Int)(holes:List Int):List Int:=iF (w*h).toNat holes
theorem AL{w h:Int}(hw:1<=w/\w<=16)(hh:1<=h/\h<=16):1<=w*h/\w*h<=256:=by
 have h1:1*1<=w*h:=Int.mul_le_mul hw.1 hh.1 (by omega) (by omega);have h2:w*h<=16*16:=Int.mul_le_mul hw.2 hh.2 (by omega) (by omega);omega
structure gH(g:bO):Prop where
 make:oV g.shape g.w g.h g.holes
 cells:g.cells=nU g.w g.h g.holes
theorem gH.cell{g:bO}(h:gH g):∀x∈g.cells,0<=x/\x<256:=by
 intro x hx;rw[h.cells]at hx;have h1:=ZT hx;have h2:=AL h.make.wi h.make.he;omega
theorem gH.len{g:bO}(h:gH g):g.cells.length<=256:=by
 rw[h.cells];have h1:=Fs (g.w*g.h).toNat g.holes;have h2:=AL h.make.wi h.make.he;unfold nU;omega
def nV(g:bO)(pos:Int):Int×Int:=(if g.shape=2 then pos.tmod g.w - (pos.tdiv g.w).tdiv 2 else pos.tmod g.w,pos.tdiv g.w)
def aU(g:bO):List (Int×(Int×Int)):=g.cells.zipIdx.map λp=>((p.2:Int),nV g p.1)
theorem AO{g:bO}{k:Nat}{x:Int}(h:g.cells[k]? =some x):(aU g)[k]? =some ((k:Int),nV g x):=by
 unfold aU;rw[eX,List.getElem?_zipIdx,h];simp
theorem nW(g:bO):(aU g).length=g.cells.length:=by simp[aU]
theorem ZU{a b:List Int}(h:a.Perm b):bY a=bY b:=by
 have h1:(bY a).Perm (bY b):=(wS a _).trans (h.trans (wS b _).symm);have s1:(bY a).Pairwise (λx y=>x<=y):=by
  have:=LY (le:=λx y:Int=>decide (x<=y)) (λa b c h1 h2=>by simp at h1 h2⊢;omega) (λa b=>by simp;omega) a;exact this.imp (λh=>by simpa using h)
 have s2:(bY b).Pairwise (λx y=>x<=y):=by
  have:=LY (le:=λx y:Int=>decide (x<=y)) (λa b c h1 h2=>by simp at h1 h2⊢;omega) (λa b=>by simp;omega) b;exact this.imp (λh=>by simpa using h)
 generalize bY a=u at h1 s1;generalize bY b=v at h1 s2;clear h;induction u generalizing v with
 |nil=>exact(List.nil_perm.1 h1).symm▸rfl
 |cons x u ih=>
  cases v with
  |nil=>exact absurd h1.length_eq (by simp)
  |cons y v=>
   have hxy:x=y:=by
    have hx:x∈y::v:=h1.mem_iff.1 (bF ..);have hy:y∈x::u:=h1.mem_iff.2 (bF ..);rcases cK.1 hx with e|hx
    ·exact e
    rcases cK.1 hy with e|hy
    ·exact e.symm
    have:=(Bu.1 s1).1 y hy;have:=(Bu.1 s2).1 x hx;omega
   subst hxy;rw[ih (Bu.1 s1).2 v ((List.perm_cons x).1 h1) (Bu.1 s2).2]
def dB:List (Int×Int):=[(1,0),(-1,0),(0,1),(0, -1),(1, -1),(-1,1)]
def cZ(g:bO):Nat:=if g.shape=1 then 4 else 6
def dI(xs:List (Int×(Int×Int))):List ((Int×Int)×Value):=xs.foldl (λm p=>upd p.2 (.int .i64 p.1) m) []
theorem JO(xs:List (Int×(Int×Int)))(p:Int×(Int×Int)):dI (xs++[p])=upd p.2 (.int .i64 p.1) (dI xs):=by
 unfold dI;rw[DU];rfl
theorem Q6{xs:List (Int×(Int×Int))}:∀a v,bW a (dI xs)=some v->∃c,v=.int .i64 c/\∃p∈xs,p.1=c:=by
 have hup:∀(m:List ((Int×Int)×Value)) (b:Int×Int) (u:Value) (a:Int×Int) (v:Value),bW a (upd b u m)=some v->(a=b/\v=u)\/bW a m=some v:=by
  intro m;induction m with
  |nil=>
   intro b u a v h;have h:(if a=b then some u else none)=some v:=h;by_cases e:a=b
   ·rw[if_pos e]at h;exact .inl ⟨e,(Option.some.inj h).symm⟩
   ·rw[if_neg e]at h;cases h
  |cons q m ih=>
   intro b u a v h;obtain⟨k,w⟩:=q;unfold upd at h;by_cases e:b=k
   ·rw[if_pos e,uu]at h;by_cases e2:a=b
    ·rw[if_pos e2]at h;exact .inl ⟨e2,(Option.some.inj h).symm⟩
    ·rw[if_neg e2]at h;right;rw[uu,if_neg (λe3=>e2 (e3.trans e.symm))];exact h
   ·rw[if_neg e,uu]at h;by_cases e2:a=k
    ·rw[if_pos e2]at h;right;rw[uu,if_pos e2];exact h
    ·rw[if_neg e2]at h;rcases ih b u a v h with h|h
     ·exact .inl h
     ·right;rw[uu,if_neg e2];exact h
 unfold dI;have:∀(xs:List (Int×(Int×Int))) (m:List ((Int×Int)×Value)) a v,bW a (xs.foldl (λm p=>upd p.2 (.int .i64 p.1) m) m)=some v->(∃c,v=.int .i64 c/\∃p∈xs,p.1=c)\/bW a m=some v:=by
  intro xs;induction xs with
  |nil=>intro m a v h;exact .inr h
  |cons p xs ih=>
   intro m a v h;rw[rE]at h;rcases ih _ a v h with⟨c,h1,q,hq,h2⟩|h
   ·exact .inl ⟨c,h1,q,bB _ hq,h2⟩
   ·rcases hup m p.2 _ a v h with⟨_,h1⟩|h
    ·exact .inl ⟨p.1,h1,p,bF ..,rfl⟩
    ·exact .inr h
 intro a v h;rcases this xs [] a v h with h|h
 ·exact h
 ·cases h
def numOf:Option Value->Option Int
 |some (.int .i64 n)=>some n
 |_=>none
def eF(m:List ((Int×Int)×Value))(s:Int×Int)(ds:List (Int×Int)):List Int:=ds.filterMap λd=>numOf (bW (s.1+d.1,s.2+d.2) m)
theorem ZV(m:List ((Int×Int)×Value))(s:Int×Int)(ds:List (Int×Int))(d:Int×Int):eF m s (ds++[d])=eF m s ds++(numOf (bW (s.1+d.1,s.2+d.2) m)).toList:=by
 unfold eF;rw[LZ];congr 1
theorem Fu(m:List ((Int×Int)×Value))(s:Int×Int)(ds:List (Int×Int)):(eF m s ds).length<=ds.length:=TY _ _
def j3(g:bO)(p:Int×(Int×Int)):List Int:=bY (eF (dI (aU g)) p.2 (dB.take (cZ g)))
def dY(g:bO):List (List Int):=(aU g).map (j3 g)
theorem Fv{g:bO}(h:gH g):∀p∈aU g,(0<=p.1/\p.1<256)/\(-256<=p.2.1/\p.2.1<256)/\(0<=p.2.2/\p.2.2<256):=by
 intro p hp;obtain⟨k,hk⟩:=wR.1 hp;have hkl:=(bA.1 hk).1;rw[nW]at hkl;have hx:g.cells[k]? =some g.cells[k]:=dz hkl;rw[AO hx]at hk;cases hk;have hb:=h.cell _ (bG hx);have hl:=h.len;generalize g.cells[k]=x at hb;have hw:=h.make.wi;have hq:0<=x.tdiv g.w/\x.tdiv g.w<=x:=by
  rw[yU hb.1];exact⟨Int.ediv_nonneg hb.1 (by omega),Int.ediv_le_self _ hb.1⟩
 have hr:0<=x.tmod g.w/\x.tmod g.w<=x:=by
  rw[L6 hb.1];refine⟨Int.emod_nonneg _ (by omega),?_⟩;have:=L8 x g.w;have h3:0<=g.w*(x/g.w):=Int.mul_nonneg (by omega) (Int.ediv_nonneg hb.1 (by omega));omega
 have hq2:0<=(x.tdiv g.w).tdiv 2/\(x.tdiv g.w).tdiv 2<=x.tdiv g.w:=by
  rw[yU hq.1];omega
 unfold nV;dsimp only;refine⟨by omega,?_,by omega⟩;split<;>omega
def JP:Enc (Int×Int):=⟨2,Unit,λx _=>[.int .i64 x.1,.int .i64 x.2],λ_ _=>[],λ_ _=>rfl⟩
abbrev AP:List Value:=[.int .i64 1,.int .i64 0,.int .i64 (-1),.int .i64 0,.int .i64 0,.int .i64 1,.int .i64 0,.int .i64 (-1),.int .i64 1,.int .i64 (-1),.int .i64 (-1),.int .i64 1]
theorem ZW{w:Wd}{b m:Nat}(h:(dF b 0 AP).p w)(hm:m<=6):(ai JP (.slice (some ⟨b,0,some 0⟩) m 6) (dB.take m)).p w:=by
 obtain⟨cells,h1,h2⟩:=h;have hl:(dB.take m).length=m:=by rw[jE];show min m 6=m;omega
 refine .inr ⟨b,0,0,6,cells,⟨by rw[hl],by rw[hl];exact hm,.inl rfl⟩,h1,λk x hk=>⟨(),λj u hj=>?_,λf hf=>by cases hf⟩⟩;have hk':dB[k]? =some x:=by
  rw[sS]at hk;split at hk
  ·exact hk
  ·cases hk
 have:=h2 (k*2+j) u (yg (E:=JP) (aF:=dB.map λd=>(d,())) (k:=k) (p:=(x,())) (by rw[eX,hk'];rfl) hj);show cells[0+k*2+j]? =_;rw[show 0+k*2+j=0+(k*2+j)by omega];exact this
theorem ZX:∀d∈dB,(-1<=d.1/\d.1<=1)/\(-1<=d.2/\d.2<=1):=by decide
theorem ZY{j:Nat}{d:Int×Int}(h:dB[j]? =some d):gV (iK AP (j*2)) 2=some [.int .i64 d.1,.int .i64 d.2]:=by
 have hj:j<6:=(bA.1 h).1;match j,hj with
 |0,_=>cases h;rfl
 |1,_=>cases h;rfl
 |2,_=>cases h;rfl
 |3,_=>cases h;rfl
 |4,_=>cases h;rfl
 |5,_=>cases h;rfl
theorem j4{α:Type}{xs:List α}{k:Nat}{x:α}(h:xs[k]? =some x):xs.take (k+1)=xs.take k++[x]:=by
 rw[mg,h];rfl
theorem yx(g:bO):cZ g<=6:=by unfold cZ;split<;>omega
theorem ZZ{P:Program}{ρ:Operand->Value}{x hi:Operand}{n size b m:Nat}(hx:ρ x=.pointer (some ⟨b,0,none⟩))(hh:ρ hi=.int .i64 (m:Int))(hm:m<=n):Pu P ρ (.GH n size x none (some hi) none) (.slice (some ⟨b,0,some 0⟩) m n):=λh=>by
 have hb:bounds? n n none (some (.int .i64 (m:Int))) none=some (0,m,n):=by
  show(match upTo n (.int .i64 (m:Int))with|none=>none|some hh=>_)=_;have:upTo n (.int .i64 (m:Int))=some m:=by
   show cond (Nat.ble m n) (some m) none=_;have:Nat.ble m n=true:=by rw[rF];exact hm
   rw[this];rfl
  rw[this]
 simp only[aA.run,hx,ic,hh,hb];show some (Value.slice (wX b (Nat.add 0 (Nat.mul 0 size))) (Nat.sub m 0) (Nat.sub n 0),h)=_;rw[show Nat.mul 0 size=0 from DT _];rfl
theorem AQ{g:bO}{k:Nat}{p:Int×(Int×Int)}(h:(aU g)[k]? =some p):p.1=(k:Int):=by
 have hk:=(bA.1 h).1;rw[nW]at hk;rw[AO (dz hk)]at h;cases h;rfl
theorem Fw{g:bO}{vs rest:List (Int×(Int×Int))}{x:Int×(Int×Int)}(h:vs++x::rest=aU g):x.1=(vs.length:Int)/\vs.length<g.cells.length/\x∈aU g:=by
 have h1:(aU g)[vs.length]? =some x:=by rw[<- h];simp
 refine⟨AQ h1,?_,bG h1⟩;have:=(bA.1 h1).1
 rwa [nW]at this
theorem Q7{A:List (List Int)}{n:Nat}(h:A.length<n)(y:List Int):(A++List.replicate (n - A.length) []).set A.length y=(A++[y])++List.replicate (n - (A.length+1)) []:=by
 rw[List.set_append_right _ _ (bn _),yS,show n - A.length=(n - (A.length+1))+1 by omega,List.replicate_succ,List.set_cons_zero];simp
theorem Z0{α:Type}{ws:List α}{k:Nat}{v:α}(h:ws[k]? =some v):ws.set k v=ws:=by
 apply jD;intro i;rw[rJ];by_cases e:k=i
 ·subst e;rw[if_pos rfl,if_pos (bA.1 h).1,h]
 ·rw[if_neg e]
theorem yz(g:bO):(dY g).length=g.cells.length:=by
 unfold dY;rw[bT,nW]
theorem Z4(g:bO):(aU g).foldl (λ(xss:List (List Int)) (x:Int×(Int×Int))=>xss.set x.1.toNat (j3 g x)) (List.replicate g.cells.length [])=dY g:=by
 have key:∀(rest vs:List (Int×(Int×Int))),vs++rest=aU g->rest.foldl (λ(xss:List (List Int)) (x:Int×(Int×Int))=>xss.set x.1.toNat (j3 g x)) (vs.map (j3 g)++List.replicate (g.cells.length - vs.length) [])=dY g:=by
  intro rest;induction rest with
  |nil=>
   intro vs h;rw[iX]at h;rw[List.foldl_nil,h,nW,yS,List.replicate_zero,iX];rfl
  |cons x rest ih=>
   intro vs h;have h1:=Fw h;rw[rE,h1.1,kV];have h2:=Q7 (A:=vs.map (j3 g)) (n:=g.cells.length) (by rw[bT];exact h1.2.1) (j3 g x);rw[bT]at h2;rw[h2];have h3:=ih (vs++[x]) (by rw[dQ];exact h);rw[dM,fK]at h3;exact h3
 have:=key (aU g) [] rfl;rw[List.map_nil,di,Gr,Bq]at this;exact this
end Kd
namespace Kd
open Go Go.Ideal
theorem wm{α β:Type}[DecidableEq α](a b:α)(v:β):∀m:List (α×β),bW a (upd b v m)=if a=b then some v else bW a m
 |[]=>rfl
 |(k,w)::m=>by
  unfold upd;by_cases e:b=k
  ·rw[if_pos e,uu,uu];by_cases e2:a=b
   ·rw[if_pos e2,if_pos e2]
   ·rw[if_neg e2,if_neg e2,if_neg (λe3=>e2 (e3.trans e.symm))]
  ·rw[if_neg e,uu,uu,wm a b v m];by_cases e2:a=k
   ·rw[if_pos e2,if_pos e2,if_neg (λe3=>e (e3.symm.trans e2))]
   ·rw[if_neg e2,if_neg e2]
theorem Q8{α β:Type}[DecidableEq α](b:α)(v:β):∀m:List (α×β),(upd b v m).length<=m.length+1
 |[]=>bn _
 |(k,w)::m=>by
  unfold upd;by_cases e:b=k
  ·rw[if_pos e,nE,nE];omega
  ·rw[if_neg e,nE,nE];have:=Q8 b v m;omega
def uz(kf:Int×Int->Int×Bool)(m:List (Int×List Int))(p:Int×(Int×Int)):List (Int×List Int):=
 cond (kf p.2).2 (upd (kf p.2).1 ((bW (kf p.2).1 m).getD []++[p.1]) m) m
def jm(kf:Int×Int->Int×Bool)(ps:List (Int×(Int×Int))):List (Int×List Int):=ps.foldl (uz kf) []
theorem Fx(kf:Int×Int->Int×Bool)(ps:List (Int×(Int×Int)))(p:Int×(Int×Int)):jm kf (ps++[p])=uz kf (jm kf ps) p:=by
 unfold jm;rw[DU];rfl
theorem JQ(kf:Int×Int->Int×Bool)(n:Nat):∀ps:List (Int×(Int×Int)),ps.length=n->(jm kf ps).length<=ps.length/\∀a,((bW a (jm kf ps)).getD []).length<=ps.length:=by
 induction n with
 |zero=>
  intro ps h;rw[kW.1 h];exact⟨bn _,λa=>bn _⟩
 |succ n ih=>
  intro ps h;obtain⟨qs,p,rfl⟩:∃qs p,ps=qs++[p]:=⟨ps.dropLast,ps.getLast (by intro e;rw[e]at h;cases h),(Bv _).symm⟩
  have hq:qs.length=n:=by simpa using h
  obtain⟨h1,h2⟩:=ih qs hq;rw[Fx,fK,uR];unfold uz;cases (kf p.2).2 with
  |false=>exact⟨by show(jm kf qs).length<=_;omega,λa=>by have:=h2 a;show((bW a (jm kf qs)).getD []).length<=_;omega⟩
  |true=>
   refine⟨?_,λa=>?_⟩
   ·have:=Q8 (kf p.2).1 ((bW (kf p.2).1 (jm kf qs)).getD []++[p.1]) (jm kf qs);show(upd _ _ _).length<=_;omega
   ·show((bW a (upd _ _ _)).getD []).length<=_;rw[wm];by_cases e:a=(kf p.2).1
    ·rw[if_pos e,sQ,fK,uR];have:=h2 (kf p.2).1;omega
    ·rw[if_neg e];have:=h2 a;omega
def jN(g:bO)(kf:Int×Int->Int×Bool):List (List Int):=(bY ((jm kf (aU g)).map (·.1))).map λn=>(bW n (jm kf (aU g))).getD []
theorem Fy{g:bO}(hg:gH g)(kf:Int×Int->Int×Bool):(jN g kf).length<=256/\∀l∈jN g kf,l.length<=256:=by
 have h:=JQ kf _ (aU g) rfl;have hl:=hg.len;rw[nW]at h;unfold jN;refine⟨?_,λl hl2=>?_⟩
 ·rw[bT];have:(bY ((jm kf (aU g)).map (·.1))).length=((jm kf (aU g)).map (·.1)).length:=(wS _ _).length_eq;rw[this,bT];omega
 ·obtain⟨n,_,rfl⟩:=ed.1 hl2;have:=h.2 n;omega
def AU(acc:List (List Int))(l:List Int):List (List Int):=if acc.head? =some l then acc else acc++[l]
def nu(a b:List (List Int)):List (List Int):=b.foldl AU a
theorem Q9{a b:List (List Int)}{k:Nat}{l:List Int}(h:b[k]? =some l):nu a (b.take (k+1))=AU (nu a (b.take k)) l:=by
 unfold nu;rw[j4 h,DU];rfl
theorem JR{a b:List (List Int)}{n:Nat}(ha:∀l∈a,l.length<=n)(hb:∀l∈b,l.length<=n):∀k,(nu a (b.take k)).length<=a.length+k/\∀l∈nu a (b.take k),l.length<=n
 |0=>⟨bn _,ha⟩
 |k+1=>by
  obtain⟨h1,h2⟩:=JR ha hb k;cases h:b[k]? with
  |none=>
   have:b.take (k+1)=b.take k:=by rw[mg,h];simp
   rw[this];exact⟨by omega,h2⟩
  |some l=>
   rw[Q9 h];unfold AU;split
   ·exact⟨by omega,h2⟩
   ·rw[fK,uR];refine⟨by omega,λx hx=>?_⟩;rcases eZ.1 hx with hx|hx
    ·exact h2 x hx
    ·rw[bC.1 hx];exact hb l (bG h)
def qZ(g:bO):List (List Int):=
 if g.shape=2 then jN g (λs=>(s.1+s.2,true))
 else if g.w=g.h then nu (jN g (λs=>(0,decide (s.1=s.2)))) (jN g (λs=>(0,decide (s.1+s.2=g.w - 1))))
 else[]
theorem FB{l:List Int}{x:Int}:x∈bY l↔x∈l:=(wS l _).mem_iff
theorem Z5:∀a c:Int,Value.int .i64 a=Value.int .i64 c->a=c:=λa c h=>by injection h
def lX(n:Nat):List (List Int):=(List.range n).map λi:Nat=>[(i:Int)]
theorem Z6(k:Nat):lX (k+1)=lX k++[[(k:Int)]]:=by
 unfold lX;rw[List.range_succ,dM];rfl
theorem Z7(k:Nat):(lX k).length=k:=by unfold lX;simp
def upTo'(n:Nat):List Int:=(List.range n).map λi:Nat=>(i:Int)
theorem Z8(k:Nat):upTo' (k+1)=upTo' k++[(k:Int)]:=by
 unfold upTo';rw[List.range_succ,dM];rfl
theorem FC(k:Nat):(upTo' k).length=k:=by unfold upTo';simp
def mJ(aK:List (List Int)):List (List Int):=aK.zipIdx.map λp=>bY (p.1++[(p.2:Int)])
theorem Z9{aK:List (List Int)}{k:Nat}{l:List Int}(h:aK[k]? =some l):mJ (aK.take (k+1))=mJ (aK.take k)++[bY (l++[(k:Int)])]:=by
 have hk:=(bA.1 h).1;unfold mJ;rw[j4 h,Bt,dM,jE,yT (by omega)];simp
theorem aaa(aK:List (List Int)):(mJ aK).length=aK.length:=by unfold mJ;simp
def kS(i:Nat)(l:List Int):List (List Int):=(l.filter λj=>decide ((i:Int)<j)).map λj=>[(i:Int),j]
theorem aab{i j:Nat}{l:List Int}{x:Int}(h:l[j]? =some x):kS i (l.take (j+1))=kS i (l.take j)++if(i:Int)<x then[[(i:Int),x]]else[]:=by
 unfold kS;rw[j4 h,Gy,dM];by_cases e:(i:Int)<x<;>simp[e]
theorem Ra(i:Nat)(l:List Int):(kS i l).length<=l.length:=by
 unfold kS;rw[bT];exact GD _ _
def jo(aK:List (List Int)):List (List Int):=aK.zipIdx.flatMap λp=>kS p.2 p.1
theorem Rb{aK:List (List Int)}{k:Nat}{l:List Int}(h:aK[k]? =some l):jo (aK.take (k+1))=jo (aK.take k)++kS k l:=by
 have hk:=(bA.1 h).1;unfold jo;rw[j4 h,Bt,List.flatMap_append,jE,yT (by omega)];simp
theorem JS{aK:List (List Int)}(hn:∀l∈aK,l.length<=6):∀k,k<=aK.length->(jo (aK.take k)).length<=6*k
 |0,_=>by simp[jo]
 |k+1,hk=>by
  have h:aK[k]? =some aK[k]:=dz (by omega);have:=JS hn k (by omega);have h2:=Ra k aK[k];have h3:=hn aK[k] (Gl _);rw[Rb h,fK];omega
theorem JU{g:bO}:∀l∈dY g,l.length<=6:=by
 intro l hl;obtain⟨p,_,rfl⟩:=ed.1 hl;unfold j3;have h1:(bY (eF (dI (aU g)) p.2 (dB.take (cZ g)))).length=(eF (dI (aU g)) p.2 (dB.take (cZ g))).length:=(wS _ _).length_eq;have h2:=Fu (dI (aU g)) p.2 (dB.take (cZ g));have h3:=yx g;rw[jE]at h2;omega
def fJ(g:bO)(k:Int):List (List Int):=
 if k=0 then lX g.cells.length
 else if k=1 then jN g (λs=>(s.2,true))
 else if k=2 then jN g (λs=>(s.1,true))
 else if k=3 then qZ g
 else if k=4 then dY g
 else if k=5 then mJ (dY g)
 else if k=6 then jo (dY g)
 else[upTo' g.cells.length]
end Kd
namespace Kd
open Go Go.Ideal
def wo(p:Int):List Int->Nat
 |[]=>0
 |a::l=>if p=a then 0 else wo p l+1
theorem Rc{p:Int}:∀{l:List Int} {n:Nat},l.Pairwise (·<·)->l[n]? =some p->wo p l=n
 |[],n,_,h=>by simp at h
 |a::l,0,_,h=>by
  have h:a=p:=by simpa using h
  unfold wo;rw[if_pos h.symm]
 |a::l,n+1,hp,h=>by
  have h:l[n]? =some p:=by simpa using h
  have h1:=(Bu.1 hp).1 p (bG h);unfold wo;rw[if_neg (by omega),Rc (Bu.1 hp).2 h]
theorem JV{p:Int}:∀{l:List Int},p∈l->wo p l<l.length
 |[],h=>by cases h
 |a::l,h=>by
  unfold wo;by_cases e:p=a
  ·rw[if_pos e,nE];omega
  ·rw[if_neg e,nE];have:=JV (p:=p) (l:=l) ((cK.1 h).resolve_left e);omega
def wu(xs:List Int):List (Int×Value):=xs.foldl (λm c=>upd c (.bool true) m) []
theorem Re(xs:List Int)(c:Int):wu (xs++[c])=upd c (.bool true) (wu xs):=by
 unfold wu;rw[DU];rfl
theorem aac(c:Int)(n:Nat):∀xs:List Int,xs.length=n->bW c (wu xs)=if c∈xs then some (.bool true)else none:=by
 induction n with
 |zero=>
  intro xs h;rw[kW.1 h];rfl
 |succ n ih=>
  intro xs h;obtain⟨ys,p,rfl⟩:∃ys p,xs=ys++[p]:=⟨xs.dropLast,xs.getLast (by intro e;rw[e]at h;cases h),(Bv _).symm⟩
  rw[Re,wm,ih ys (by simpa using h)];by_cases e:c=p
  ·subst e;simp
  ·simp[e]
theorem aad(c:Int)(xs:List Int):jA false (.bool false) c (wu xs)=.bool (decide (c∈xs)):=by
 unfold jA;rw[aac c _ xs rfl];by_cases e:c∈xs
 ·rw[if_pos e,dU e];rfl
 ·rw[if_neg e,cO e];rfl
theorem aae:∀(m:Nat) (l:List Int),l.Nodup->(∀x∈l,0<=x/\x<(m:Int))->l.length<=m:=by
 intro m;induction m with
 |zero=>
  intro l _ h;cases l with
  |nil=>exact bn _
  |cons x l=>have:=h x (bF ..);omega
 |succ m ih=>
  intro l hn h;have h1:=ih (l.erase (m:Int)) (hn.erase _) (λx hx=>by
   have:=h x (List.mem_of_mem_erase hx);have hne:x≠(m:Int):=λe=>by subst e;exact(List.Nodup.mem_erase_iff hn).1 hx|>.1 rfl
   omega)
  rw[List.length_erase]at h1;split at h1<;>omega
structure FD(g:bO)(ps:List Int):Prop where
 ne:ps≠[]
 mem:∀p∈ps,p∈g.cells
 nd:(ps.map λp=>(wo p g.cells:Int)).Nodup
structure yA(g:bO)(rs:List (List Int)):Prop where
 len:rs.length<=64
 all:∀ps∈rs,FD g ps
def gT(g:bO)(ps:List Int):List Int:=ps.map λp=>(wo p g.cells:Int)
def gI(g:bO)(rs:List (List Int)):List (List Int):=rs.map (gT g)
theorem JW{g:bO}{ps:List Int}(hm:∀p∈ps,p∈g.cells)(hn:(gT g ps).Nodup):ps.length<=g.cells.length:=by
 have:=aae g.cells.length (gT g ps) hn (λx hx=>by
  obtain⟨p,hp,rfl⟩:=ed.1 hx;have:=JV (hm p hp);omega)
 unfold gT at this
 rwa [bT]at this
end Kd
namespace Kd
open Go Go.Ideal
def rq(xs:List Int):List (Int×Value):=(xs.foldl (λs c=>(upd c (.int .i64 ((s.2.count c:Nat)+1)) s.1,s.2++[c])) (([]:List (Int×Value)),([]:List Int))).1
theorem aaf(xs:List Int):∀(m:List (Int×Value)) (ys:List Int),(xs.foldl (λs c=>(upd c (.int .i64 ((s.2.count c:Nat)+1)) s.1,s.2++[c])) (m,ys)).2=ys++xs:=by
 induction xs with
 |nil=>intro m ys;simp
 |cons x xs ih=>intro m ys;rw[rE,ih];simp
theorem Rf(xs:List Int)(c:Int):rq (xs++[c])=upd c (.int .i64 ((xs.count c:Nat)+1)) (rq xs):=by
 unfold rq;rw[DU,rE,List.foldl_nil];show upd c _ _=_;rw[aaf,di]
theorem aag(c:Int)(n:Nat):∀xs:List Int,xs.length=n->bW c (rq xs)=if c∈xs then some (.int .i64 (xs.count c:Nat))else none:=by
 induction n with
 |zero=>
  intro xs h;rw[kW.1 h];rfl
 |succ n ih=>
  intro xs h;obtain⟨ys,p,rfl⟩:∃ys p,xs=ys++[p]:=⟨xs.dropLast,xs.getLast (by intro e;rw[e]at h;cases h),(Bv _).symm⟩
  rw[Rf,wm,ih ys (by simpa using h)];by_cases e:c=p
  ·subst e;simp
  ·have e2:¬p=c:=λh=>e h.symm;simp[e,e2,List.count_cons,List.count_append]
theorem Rh(c:Int)(xs:List Int):jA false (.int .i64 0) c (rq xs)=.int .i64 (xs.count c:Nat):=by
 unfold jA;rw[aag c _ xs rfl];by_cases e:c∈xs
 ·rw[if_pos e];rfl
 ·rw[if_neg e,List.count_eq_zero_of_not_mem e];rfl
theorem aah(c:Int)(xs:List Int):xs.count c<=xs.length:=List.count_le_length ..
def aX(d:bR):bO:=⟨d.shape,d.w,d.h,d.holes,nU d.w d.h d.holes⟩
def lY(d:bR):List (List (List Int)):=((List.range 8).map λf:Nat=>fJ (aX d) (f:Int))++d.regions.map λr=>gI (aX d) r.lists
def ny(d:bR):bP:=⟨d,aX d,dY (aX d),lY d⟩
