/-
  Kinds, in plain lists: declarations, how names are resolved; how they lie in cells.
-/
import Derived.Test.YtpkieeggilkagaaGreatIdealN
set_option linter.unusedSimpArgs false
set_option linter.unusedVariables false
namespace Kd
open Go Go.Ideal
structure Sym where
 name:ByteArray
 value:Int
 deriving DecidableEq
structure Reg where
 name:ByteArray
 lists:List (List Int)
 deriving DecidableEq
structure Clu where
 name:ByteArray
 on:ByteArray
 family:Int
 type:Int
 lo:Int
 hi:Int
 deriving DecidableEq
structure Rul where
 name:ByteArray
 on:ByteArray
 kind:Int
 family:Int
 names:List ByteArray
 others:List ByteArray
 set:Int
 other:Int
 op:Int
 n:Int
 by_:ByteArray
 clue:Int
 deriving DecidableEq
structure Dcl where
 name:ByteArray
 version:Int
 shape:Int
 w:Int
 h:Int
 holes:List Int
 symbols:List Sym
 regions:List Reg
 clues:List Clu
 rules:List Rul
 deriving DecidableEq
structure Grd where
 shape:Int
 w:Int
 h:Int
 holes:List Int
 cells:List Int
 deriving DecidableEq
structure Knd where
 decl:Dcl
 grid:Grd
 nbs:List (List Int)
 lists:List (List (List Int))
 deriving DecidableEq
def zET:Enc Sym:=⟨2,Unit,fun x _=>[.string x.name,.int .i64 x.value],fun _ _=>[],fun _ _=>rfl⟩
def zEk:Enc Reg:=⟨2,Value,fun x v=>[.string x.name,v],fun x v=>[fSl (slE intE) v x.lists],fun _ _=>rfl⟩
def zAS:Enc Clu:=⟨6,Unit,fun x _=>[.string x.name,.string x.on,.int .i64 x.family,.int .i64 x.type,.int .i64 x.lo,.int .i64 x.hi],fun _ _=>[],fun _ _=>rfl⟩
abbrev zCG(x:Rul)(v1 v2:Value):List Value:=[.string x.name,.string x.on,.int .i64 x.kind,.int .i64 x.family,v1,v2,.int .i64 x.set,.int .i64 x.other,.int .i64 x.op,.int .i64 x.n,.string x.by_,.int .i64 x.clue]
def zn:Enc Rul:=⟨12,Value×Value,fun x v=>zCG x v.1 v.2,fun x v=>[fSl zC0 v.1 x.names,fSl zC0 v.2 x.others],fun _ _=>rfl⟩
abbrev zGB(d:Dcl)(vh vs vr vc vu:Value):List Value:=[.string d.name,.int .i64 d.version,.int .i64 d.shape,.int .i64 d.w,.int .i64 d.h,vh,vs,vr,vc,vu]
abbrev zLE(d:Dcl)(vh vs vr vc vu:Value):List zJ:=[fSl intE vh d.holes,fSl zET vs d.symbols,fSl zEk vr d.regions,fSl zAS vc d.clues,fSl zn vu d.rules]
def posn(s:ByteArray):List ByteArray→Nat
 |[]=>0
 |a::l=>if s=a then 0 else posn s l+1
theorem zCR{s:ByteArray}:∀{l:List ByteArray},s∈l→posn s l<l.length
 |[],h=>by cases h
 |a::l,h=>by
  unfold posn;split
  ·simp
  ·rename_i hne;have:=zCR ((List.mem_cons.1 h).resolve_left hne);simp;omega
def zAi(names:List ByteArray)(start:Nat):List (ByteArray×Value):=names.zipIdx.map fun p=>(p.1,.int .i64 ((start+p.2:Nat):Int))
theorem zC2(a b:List ByteArray)(start:Nat):zAi (a++b) start=zAi a start++zAi b (start+a.length):=by
 unfold zAi;rw[List.zipIdx_append,List.map_append];congr 1;rw[show b.zipIdx (0+a.length)=(b.zipIdx 0).map (fun p=>(p.1,p.2+a.length))by
  rw[Nat.zero_add];conv=>lhs;rw[show a.length=0+a.length by omega]
  rw[List.zipIdx_eq_map_add];apply List.map_congr_left;rintro⟨s,i⟩ _;simp only;rw[show 0+a.length+i=i+a.length by omega]]
 rw[List.map_map];apply List.map_congr_left;rintro⟨s,i⟩ _;simp only[Function.comp];rw[show start+(i+a.length)=start+a.length+i by omega]
theorem zAP(names:List ByteArray)(start:Nat):(zAi names start).map (·.1)=names:=by
 unfold zAi;rw[List.map_map];have:((fun p:ByteArray×Value=>p.1)∘fun p:ByteArray×Nat=>(p.1,Value.int .i64 ((start+p.2:Nat):Int)))=Prod.fst:=rfl;rw[this,List.zipIdx_map_fst]
theorem zAz{α β:Type}[DecidableEq α](a b:α)(v:β)(l:List (α×β)):lkp a ((b,v)::l)=if a=b then some v else lkp a l:=rfl
theorem zAI{α β:Type}[DecidableEq α]{a:α}:∀{l:List (α×β)},a∉l.map (·.1)→lkp a l=none
 |[],_=>rfl
 |(b,v)::l,h=>by
  unfold lkp;rw[if_neg (fun e=>h (by rw[e];simp)),zAI (fun h2=>h (by simp only[List.map_cons];exact List.mem_cons_of_mem _ h2))]
theorem zFi{α β:Type}[DecidableEq α]{a:α}:∀{l:List (α×β)},a∈l.map (·.1)→∃v,lkp a l=some v
 |[],h=>by cases h
 |(b,v)::l,h=>by
  unfold lkp;by_cases e:a=b
  ·exact⟨v,by rw[if_pos e]⟩
  ·obtain⟨u,hu⟩:=zFi (l:=l) ((List.mem_cons.1 h).resolve_left e);exact⟨u,by rw[if_neg e,hu]⟩
theorem zA0{s:ByteArray}:∀{names:List ByteArray} {start:Nat},s∈names→lkp s (zAi names start)=some (.int .i64 ((start+posn s names:Nat):Int))
 |[],start,h=>by cases h
 |a::l,start,h=>by
  have e:zAi (a::l) start=(a,.int .i64 ((start:Nat):Int))::zAi l (start+1):=by
   have:=zC2 [a] l start;simpa[zAi]using this
  rw[e];unfold lkp posn;by_cases hs:s=a
  ·rw[if_pos hs,if_pos hs];rfl
  ·rw[if_neg hs,if_neg hs,zA0 ((List.mem_cons.1 h).resolve_left hs),show start+1+posn s l=start+(posn s l+1)by omega]
theorem zDs{α β:Type}[DecidableEq α]{a:α}{v:β}:∀{l:List (α×β)},a∉l.map (·.1)→upd a v l=l++[(a,v)]
 |[],_=>rfl
 |(b,u)::l,h=>by
  unfold upd;rw[if_neg (fun e=>h (by rw[e];simp)),zDs (fun h2=>h (by simp only[List.map_cons];exact List.mem_cons_of_mem _ h2))];rfl
def zFB:List ByteArray:=[⟨⟨[99,101,108,108,115]⟩⟩,⟨⟨[114,111,119,115]⟩⟩,⟨⟨[99,111,108,117,109,110,115]⟩⟩,⟨⟨[100,105,97,103,111,110,97,108,115]⟩⟩,⟨⟨[97,114,111,117,110,100]⟩⟩,⟨⟨[110,101,97,114]⟩⟩,⟨⟨[112,97,105,114,115]⟩⟩,⟨⟨[97,108,108]⟩⟩]
def zBv(d:Dcl):List ByteArray:=d.symbols.map (·.name)
def zBR(d:Dcl):List ByteArray:=zFB++d.regions.map (·.name)
def zEd(d:Dcl):List ByteArray:=d.clues.map (·.name)
def zTk(d:Dcl):List ByteArray:=d.rules.map (·.name)
def setN(syms l:List ByteArray):Nat:=l.foldl (fun m s=>m|||1<<<posn s syms) 0
def zR6(fam:List ByteArray)(c:Clu):Clu:={c with family:=(posn c.on fam:Int)}
def zMI(syms fam clus:List ByteArray)(r:Rul):Rul:=
 {r with family:=if r.on=⟨⟨[]⟩⟩then 0 else(posn r.on fam:Int),clue:=if r.by_=⟨⟨[]⟩⟩then -1 else(posn r.by_ clus:Int),set:=(setN syms r.names:Int),other:=(setN syms r.others:Int)}
def rslv(d:Dcl):Dcl:={d with clues:=d.clues.map (zR6 (zBR d)),rules:=d.rules.map (zMI (zBv d) (zBR d) (zEd d))}
structure zQ3(syms fam clus:List ByteArray)(r:Rul):Prop where
 on:r.on=⟨⟨[]⟩⟩∨r.on∈fam
 names:∀s∈r.names,s∈syms
 others:∀s∈r.others,s∈syms
 by_:r.by_=⟨⟨[]⟩⟩∨r.by_∈clus
structure zF2(d:Dcl):Prop where
 syms:d.symbols.length≤16
 symNd:(zBv d).Nodup
 famNd:(zBR d).Nodup
 cluNd:(zEd d).Nodup
 cluOn:∀c∈d.clues,c.on∈zBR d
 rulNd:(zTk d).Nodup
 rul:∀r∈d.rules,zQ3 (zBv d) (zBR d) (zEd d) r
def zY{α:Type}(f:α→α)(k:Nat)(xs:List α):List α:=(xs.take k).map f++xs.drop k
theorem zFQ{α:Type}(f:α→α)(xs:List α):zY f xs.length xs=xs.map f:=by simp[zY]
theorem zAD{α:Type}(f:α→α)(k:Nat)(xs:List α):(zY f k xs).length=xs.length:=by simp[zY];omega
theorem zFb{α:Type}(f:α→α){k:Nat}{xs:List α}(hk:k<xs.length):(zY f k xs)[k]? =xs[k]?:=by
 unfold zY;rw[List.getElem?_append_right (by simp;omega),List.length_map,List.length_take,Nat.min_eq_left (by omega),Nat.sub_self,List.getElem?_drop,Nat.add_zero]
theorem zE5{α:Type}(f:α→α){k:Nat}{xs:List α}{x:α}(hx:xs[k]? =some x):(zY f k xs).set k (f x)=zY f (k+1) xs:=by
 have hk:=(List.getElem?_eq_some_iff.1 hx).1;unfold zY;rw[List.set_append_right _ _ (by simp;omega),List.length_map,List.length_take,Nat.min_eq_left (by omega),Nat.sub_self];have hd:xs.drop k=x::xs.drop (k+1):=by
  rw[List.drop_eq_getElem_cons hk];congr 1;rw[List.getElem?_eq_getElem hk]at hx;exact Option.some.inj hx
 rw[hd,List.take_add_one,hx,List.map_append];simp
end Kd
namespace Kd
open Go Go.Ideal
structure zBl(s w h:Int)(holes:List Int):Prop where
 sh:s=1∨s=2
 wi:1≤w∧w≤16
 he:1≤h∧h≤16
 len:(holes.length:Int)<w*h
 inc:holes.Pairwise (·<·)
 mem:∀x∈holes,0≤x∧x<w*h
def zo(n:Nat)(holes:List Int):List Int:=((List.range n).map fun i:Nat=>(i:Int)).filter fun i=>!decide (i∈holes)
theorem zE6(n:Nat)(holes:List Int):zo (n+1) holes=zo n holes++if(n:Int)∈holes then[]else[(n:Int)]:=by
 unfold zo;rw[List.range_succ,List.map_append,List.filter_append];congr 1;by_cases h:(n:Int)∈holes
 ·simp[h]
 ·simp[h]
theorem zCg(n:Nat)(holes:List Int):(zo n holes).length≤n:=by
 unfold zo;refine Nat.le_trans (List.length_filter_le _ _) ?_;simp
theorem zK6{n:Nat}{holes:List Int}{x:Int}(h:x∈zo n holes):0≤x∧x<n∧x∉holes:=by
 unfold zo at h;obtain⟨h1,h2⟩:=List.mem_filter.1 h;obtain⟨i,hi,rfl⟩:=List.mem_map.1 h1;have:=List.mem_range.1 hi;exact⟨by omega,by omega,by simpa using h2⟩
theorem zGC(n:Nat)(holes:List Int):(zo n holes).Pairwise (·<·):=by
 unfold zo;refine List.Pairwise.filter _ ?_;rw[List.pairwise_map];exact List.Pairwise.imp (fun h=>by omega) List.pairwise_lt_range
def zAJ(w h:Int)(holes:List Int):List Int:=zo (w*h).toNat holes
theorem zBk{w h:Int}(hw:1≤w∧w≤16)(hh:1≤h∧h≤16):1≤w*h∧w*h≤256:=by
 have h1:1*1≤w*h:=Int.mul_le_mul hw.1 hh.1 (by omega) (by omega);have h2:w*h≤16*16:=Int.mul_le_mul hw.2 hh.2 (by omega) (by omega);omega
structure zAB(g:Grd):Prop where
 make:zBl g.shape g.w g.h g.holes
 cells:g.cells=zAJ g.w g.h g.holes
theorem zAB.cell{g:Grd}(h:zAB g):∀x∈g.cells,0≤x∧x<256:=by
 intro x hx;rw[h.cells]at hx;have h1:=zK6 hx;have h2:=zBk h.make.wi h.make.he;omega
theorem zAB.len{g:Grd}(h:zAB g):g.cells.length≤256:=by
 rw[h.cells];have h1:=zCg (g.w*g.h).toNat g.holes;have h2:=zBk h.make.wi h.make.he;unfold zAJ;omega
def zBU(g:Grd)(pos:Int):Int×Int:=(if g.shape=2 then pos.tmod g.w - (pos.tdiv g.w).tdiv 2 else pos.tmod g.w,pos.tdiv g.w)
def spotsL(g:Grd):List (Int×(Int×Int)):=g.cells.zipIdx.map fun p=>((p.2:Int),zBU g p.1)
theorem zA5{g:Grd}{k:Nat}{x:Int}(h:g.cells[k]? =some x):(spotsL g)[k]? =some ((k:Int),zBU g x):=by
 unfold spotsL;rw[List.getElem?_map,List.getElem?_zipIdx,h];simp
theorem zf(g:Grd):(spotsL g).length=g.cells.length:=by simp[spotsL]
theorem zKq{a b:List Int}(h:a.Perm b):sortZ a=sortZ b:=by
 have h1:(sortZ a).Perm (sortZ b):=(List.mergeSort_perm a _).trans (h.trans (List.mergeSort_perm b _).symm);have s1:(sortZ a).Pairwise (fun x y=>x≤y):=by
  have:=List.pairwise_mergeSort (le:=fun x y:Int=>decide (x≤y)) (fun a b c h1 h2=>by simp at h1 h2⊢;omega) (fun a b=>by simp;omega) a;exact this.imp (fun h=>by simpa using h)
 have s2:(sortZ b).Pairwise (fun x y=>x≤y):=by
  have:=List.pairwise_mergeSort (le:=fun x y:Int=>decide (x≤y)) (fun a b c h1 h2=>by simp at h1 h2⊢;omega) (fun a b=>by simp;omega) b;exact this.imp (fun h=>by simpa using h)
 generalize sortZ a=u at h1 s1;generalize sortZ b=v at h1 s2;clear h;induction u generalizing v with
 |nil=>exact(List.nil_perm.1 h1).symm▸rfl
 |cons x u ih=>
  cases v with
  |nil=>exact absurd h1.length_eq (by simp)
  |cons y v=>
   have hxy:x=y:=by
    have hx:x∈y::v:=h1.mem_iff.1 (List.mem_cons_self ..);have hy:y∈x::u:=h1.mem_iff.2 (List.mem_cons_self ..);rcases List.mem_cons.1 hx with e|hx
    ·exact e
    rcases List.mem_cons.1 hy with e|hy
    ·exact e.symm
    have:=(List.pairwise_cons.1 s1).1 y hy;have:=(List.pairwise_cons.1 s2).1 x hx;omega
   subst hxy;rw[ih (List.pairwise_cons.1 s1).2 v ((List.perm_cons x).1 h1) (List.pairwise_cons.1 s2).2]
def stepsL:List (Int×Int):=[(1,0),(-1,0),(0,1),(0, -1),(1, -1),(-1,1)]
def manyOf(g:Grd):Nat:=if g.shape=1 then 4 else 6
def atM(xs:List (Int×(Int×Int))):List ((Int×Int)×Value):=xs.foldl (fun m p=>upd p.2 (.int .i64 p.1) m) []
theorem zDq(xs:List (Int×(Int×Int)))(p:Int×(Int×Int)):atM (xs++[p])=upd p.2 (.int .i64 p.1) (atM xs):=by
 unfold atM;rw[List.foldl_append];rfl
theorem zMx{xs:List (Int×(Int×Int))}:∀a v,lkp a (atM xs)=some v→∃c,v=.int .i64 c∧∃p∈xs,p.1=c:=by
 have hup:∀(m:List ((Int×Int)×Value)) (b:Int×Int) (u:Value) (a:Int×Int) (v:Value),lkp a (upd b u m)=some v→(a=b∧v=u)∨lkp a m=some v:=by
  intro m;induction m with
  |nil=>
   intro b u a v h;have h:(if a=b then some u else none)=some v:=h;by_cases e:a=b
   ·rw[if_pos e]at h;exact .inl ⟨e,(Option.some.inj h).symm⟩
   ·rw[if_neg e]at h;cases h
  |cons q m ih=>
   intro b u a v h;obtain⟨k,w⟩:=q;unfold upd at h;by_cases e:b=k
   ·rw[if_pos e,zAz]at h;by_cases e2:a=b
    ·rw[if_pos e2]at h;exact .inl ⟨e2,(Option.some.inj h).symm⟩
    ·rw[if_neg e2]at h;right;rw[zAz,if_neg (fun e3=>e2 (e3.trans e.symm))];exact h
   ·rw[if_neg e,zAz]at h;by_cases e2:a=k
    ·rw[if_pos e2]at h;right;rw[zAz,if_pos e2];exact h
    ·rw[if_neg e2]at h;rcases ih b u a v h with h|h
     ·exact .inl h
     ·right;rw[zAz,if_neg e2];exact h
 unfold atM;have:∀(xs:List (Int×(Int×Int))) (m:List ((Int×Int)×Value)) a v,lkp a (xs.foldl (fun m p=>upd p.2 (.int .i64 p.1) m) m)=some v→(∃c,v=.int .i64 c∧∃p∈xs,p.1=c)∨lkp a m=some v:=by
  intro xs;induction xs with
  |nil=>intro m a v h;exact .inr h
  |cons p xs ih=>
   intro m a v h;rw[List.foldl_cons]at h;rcases ih _ a v h with⟨c,h1,q,hq,h2⟩|h
   ·exact .inl ⟨c,h1,q,List.mem_cons_of_mem _ hq,h2⟩
   ·rcases hup m p.2 _ a v h with⟨_,h1⟩|h
    ·exact .inl ⟨p.1,h1,p,List.mem_cons_self ..,rfl⟩
    ·exact .inr h
 intro a v h;rcases this xs [] a v h with h|h
 ·exact h
 ·cases h
def numOf:Option Value→Option Int
 |some (.int .i64 n)=>some n
 |_=>none
def zj(m:List ((Int×Int)×Value))(s:Int×Int)(ds:List (Int×Int)):List Int:=ds.filterMap fun d=>numOf (lkp (s.1+d.1,s.2+d.2) m)
theorem zIF(m:List ((Int×Int)×Value))(s:Int×Int)(ds:List (Int×Int))(d:Int×Int):zj m s (ds++[d])=zj m s ds++(numOf (lkp (s.1+d.1,s.2+d.2) m)).toList:=by
 unfold zj;rw[List.filterMap_append];congr 1
theorem zDG(m:List ((Int×Int)×Value))(s:Int×Int)(ds:List (Int×Int)):(zj m s ds).length≤ds.length:=List.length_filterMap_le _ _
def zBc(g:Grd)(p:Int×(Int×Int)):List Int:=sortZ (zj (atM (spotsL g)) p.2 (stepsL.take (manyOf g)))
def nbsOf(g:Grd):List (List Int):=(spotsL g).map (zBc g)
theorem zCD{g:Grd}(h:zAB g):∀p∈spotsL g,(0≤p.1∧p.1<256)∧(-256≤p.2.1∧p.2.1<256)∧(0≤p.2.2∧p.2.2<256):=by
 intro p hp;obtain⟨k,hk⟩:=List.mem_iff_getElem?.1 hp;have hkl:=(List.getElem?_eq_some_iff.1 hk).1;rw[zf]at hkl;have hx:g.cells[k]? =some g.cells[k]:=List.getElem?_eq_getElem hkl;rw[zA5 hx]at hk;cases hk;have hb:=h.cell _ (List.mem_of_getElem? hx);have hl:=h.len;generalize g.cells[k]=x at hb;have hw:=h.make.wi;have hq:0≤x.tdiv g.w∧x.tdiv g.w≤x:=by
  rw[Int.tdiv_eq_ediv_of_nonneg hb.1];exact⟨Int.ediv_nonneg hb.1 (by omega),Int.ediv_le_self _ hb.1⟩
 have hr:0≤x.tmod g.w∧x.tmod g.w≤x:=by
  rw[Int.tmod_eq_emod_of_nonneg hb.1];refine⟨Int.emod_nonneg _ (by omega),?_⟩;have:=Int.emod_add_mul_ediv x g.w;have h3:0≤g.w*(x/g.w):=Int.mul_nonneg (by omega) (Int.ediv_nonneg hb.1 (by omega));omega
 have hq2:0≤(x.tdiv g.w).tdiv 2∧(x.tdiv g.w).tdiv 2≤x.tdiv g.w:=by
  rw[Int.tdiv_eq_ediv_of_nonneg hq.1];omega
 unfold zBU;dsimp only;refine⟨by omega,?_,by omega⟩;split<;>omega
def zRH:Enc (Int×Int):=⟨2,Unit,fun x _=>[.int .i64 x.1,.int .i64 x.2],fun _ _=>[],fun _ _=>rfl⟩
abbrev zGH:List Value:=[.int .i64 1,.int .i64 0,.int .i64 (-1),.int .i64 0,.int .i64 0,.int .i64 1,.int .i64 0,.int .i64 (-1),.int .i64 1,.int .i64 (-1),.int .i64 (-1),.int .i64 1]
theorem zKw{w:Wd}{b m:Nat}(h:(fRaw b 0 zGH).p w)(hm:m≤6):(fSl zRH (.slice (some ⟨b,0,some 0⟩) m 6) (stepsL.take m)).p w:=by
 obtain⟨cells,h1,h2⟩:=h;have hl:(stepsL.take m).length=m:=by rw[List.length_take];show min m 6=m;omega
 refine .inr ⟨b,0,0,6,cells,⟨by rw[hl],by rw[hl];exact hm,.inl rfl⟩,h1,fun k x hk=>⟨(),fun j u hj=>?_,fun f hf=>by cases hf⟩⟩;have hk':stepsL[k]? =some x:=by
  rw[List.getElem?_take]at hk;split at hk
  ·exact hk
  ·cases hk
 have:=h2 (k*2+j) u (zBE (E:=zRH) (xys:=stepsL.map fun d=>(d,())) (k:=k) (p:=(x,())) (by rw[List.getElem?_map,hk'];rfl) hj);show cells[0+k*2+j]? =_;rw[show 0+k*2+j=0+(k*2+j)by omega];exact this
theorem zMP:∀d∈stepsL,(-1≤d.1∧d.1≤1)∧(-1≤d.2∧d.2≤1):=by decide
theorem zMs{j:Nat}{d:Int×Int}(h:stepsL[j]? =some d):zAT (zAg zGH (j*2)) 2=some [.int .i64 d.1,.int .i64 d.2]:=by
 have hj:j<6:=(List.getElem?_eq_some_iff.1 h).1;match j,hj with
 |0,_=>cases h;rfl
 |1,_=>cases h;rfl
 |2,_=>cases h;rfl
 |3,_=>cases h;rfl
 |4,_=>cases h;rfl
 |5,_=>cases h;rfl
theorem zP{α:Type}{xs:List α}{k:Nat}{x:α}(h:xs[k]? =some x):xs.take (k+1)=xs.take k++[x]:=by
 rw[List.take_add_one,h];rfl
theorem zBJ(g:Grd):manyOf g≤6:=by unfold manyOf;split<;>omega
theorem zNe{P:Program}{ρ:Operand→Value}{x hi:Operand}{n size b m:Nat}(hx:ρ x=.pointer (some ⟨b,0,none⟩))(hh:ρ hi=.int .i64 (m:Int))(hm:m≤n):Pu P ρ (.slArr n size x none (some hi) none) (.slice (some ⟨b,0,some 0⟩) m n):=fun h=>by
 have hb:zBB n n none (some (.int .i64 (m:Int))) none=some (0,m,n):=by
  show(match upTo n (.int .i64 (m:Int))with|none=>none|some hh=>_)=_;have:upTo n (.int .i64 (m:Int))=some m:=by
   show cond (Nat.ble m n) (some m) none=_;have:Nat.ble m n=true:=by rw[Nat.ble_eq];exact hm
   rw[this];rfl
  rw[this]
 simp only[COp.run,hx,zg,hh,hb];show some (Value.slice (zDU b (Nat.add 0 (Nat.mul 0 size))) (Nat.sub m 0) (Nat.sub n 0),h)=_;rw[show Nat.mul 0 size=0 from Nat.zero_mul _];rfl
theorem zA4{g:Grd}{k:Nat}{p:Int×(Int×Int)}(h:(spotsL g)[k]? =some p):p.1=(k:Int):=by
 have hk:=(List.getElem?_eq_some_iff.1 h).1;rw[zf]at hk;rw[zA5 (List.getElem?_eq_getElem hk)]at h;cases h;rfl
theorem zDP{g:Grd}{vs rest:List (Int×(Int×Int))}{x:Int×(Int×Int)}(h:vs++x::rest=spotsL g):x.1=(vs.length:Int)∧vs.length<g.cells.length∧x∈spotsL g:=by
 have h1:(spotsL g)[vs.length]? =some x:=by rw[← h];simp
 refine⟨zA4 h1,?_,List.mem_of_getElem? h1⟩;have:=(List.getElem?_eq_some_iff.1 h1).1
 rwa [zf]at this
theorem zJQ{A:List (List Int)}{n:Nat}(h:A.length<n)(y:List Int):(A++List.replicate (n - A.length) []).set A.length y=(A++[y])++List.replicate (n - (A.length+1)) []:=by
 rw[List.set_append_right _ _ (Nat.le_refl _),Nat.sub_self,show n - A.length=(n - (A.length+1))+1 by omega,List.replicate_succ,List.set_cons_zero];simp
theorem zOO{α:Type}{ws:List α}{k:Nat}{v:α}(h:ws[k]? =some v):ws.set k v=ws:=by
 apply List.ext_getElem?;intro i;rw[List.getElem?_set];by_cases e:k=i
 ·subst e;rw[if_pos rfl,if_pos (List.getElem?_eq_some_iff.1 h).1,h]
 ·rw[if_neg e]
theorem zAZ(g:Grd):(nbsOf g).length=g.cells.length:=by
 unfold nbsOf;rw[List.length_map,zf]
theorem zPQ(g:Grd):(spotsL g).foldl (fun(xss:List (List Int)) (x:Int×(Int×Int))=>xss.set x.1.toNat (zBc g x)) (List.replicate g.cells.length [])=nbsOf g:=by
 have key:∀(rest vs:List (Int×(Int×Int))),vs++rest=spotsL g→rest.foldl (fun(xss:List (List Int)) (x:Int×(Int×Int))=>xss.set x.1.toNat (zBc g x)) (vs.map (zBc g)++List.replicate (g.cells.length - vs.length) [])=nbsOf g:=by
  intro rest;induction rest with
  |nil=>
   intro vs h;rw[List.append_nil]at h;rw[List.foldl_nil,h,zf,Nat.sub_self,List.replicate_zero,List.append_nil];rfl
  |cons x rest ih=>
   intro vs h;have h1:=zDP h;rw[List.foldl_cons,h1.1,Int.toNat_natCast];have h2:=zJQ (A:=vs.map (zBc g)) (n:=g.cells.length) (by rw[List.length_map];exact h1.2.1) (zBc g x);rw[List.length_map]at h2;rw[h2];have h3:=ih (vs++[x]) (by rw[List.append_assoc];exact h);rw[List.map_append,List.length_append]at h3;exact h3
 have:=key (spotsL g) [] rfl;rw[List.map_nil,List.nil_append,List.length_nil,Nat.sub_zero]at this;exact this
end Kd
namespace Kd
open Go Go.Ideal
theorem zCa{α β:Type}[DecidableEq α](a b:α)(v:β):∀m:List (α×β),lkp a (upd b v m)=if a=b then some v else lkp a m
 |[]=>rfl
 |(k,w)::m=>by
  unfold upd;by_cases e:b=k
  ·rw[if_pos e,zAz,zAz];by_cases e2:a=b
   ·rw[if_pos e2,if_pos e2]
   ·rw[if_neg e2,if_neg e2,if_neg (fun e3=>e2 (e3.trans e.symm))]
  ·rw[if_neg e,zAz,zAz,zCa a b v m];by_cases e2:a=k
   ·rw[if_pos e2,if_pos e2,if_neg (fun e3=>e (e3.symm.trans e2))]
   ·rw[if_neg e2,if_neg e2]
theorem zNP{α β:Type}[DecidableEq α](b:α)(v:β):∀m:List (α×β),(upd b v m).length≤m.length+1
 |[]=>Nat.le_refl _
 |(k,w)::m=>by
  unfold upd;by_cases e:b=k
  ·rw[if_pos e,List.length_cons,List.length_cons];omega
  ·rw[if_neg e,List.length_cons,List.length_cons];have:=zNP b v m;omega
def zB4(kf:Int×Int→Int×Bool)(m:List (Int×List Int))(p:Int×(Int×Int)):List (Int×List Int):=
 cond (kf p.2).2 (upd (kf p.2).1 ((lkp (kf p.2).1 m).getD []++[p.1]) m) m
def linM(kf:Int×Int→Int×Bool)(ps:List (Int×(Int×Int))):List (Int×List Int):=ps.foldl (zB4 kf) []
theorem zB7(kf:Int×Int→Int×Bool)(ps:List (Int×(Int×Int)))(p:Int×(Int×Int)):linM kf (ps++[p])=zB4 kf (linM kf ps) p:=by
 unfold linM;rw[List.foldl_append];rfl
theorem zHE(kf:Int×Int→Int×Bool)(n:Nat):∀ps:List (Int×(Int×Int)),ps.length=n→(linM kf ps).length≤ps.length∧∀a,((lkp a (linM kf ps)).getD []).length≤ps.length:=by
 induction n with
 |zero=>
  intro ps h;rw[List.length_eq_zero_iff.1 h];exact⟨Nat.le_refl _,fun a=>Nat.le_refl _⟩
 |succ n ih=>
  intro ps h;obtain⟨qs,p,rfl⟩:∃qs p,ps=qs++[p]:=⟨ps.dropLast,ps.getLast (by intro e;rw[e]at h;cases h),(List.dropLast_concat_getLast _).symm⟩
  have hq:qs.length=n:=by simpa using h
  obtain⟨h1,h2⟩:=ih qs hq;rw[zB7,List.length_append,List.length_singleton];unfold zB4;cases (kf p.2).2 with
  |false=>exact⟨by show(linM kf qs).length≤_;omega,fun a=>by have:=h2 a;show((lkp a (linM kf qs)).getD []).length≤_;omega⟩
  |true=>
   refine⟨?_,fun a=>?_⟩
   ·have:=zNP (kf p.2).1 ((lkp (kf p.2).1 (linM kf qs)).getD []++[p.1]) (linM kf qs);show(upd _ _ _).length≤_;omega
   ·show((lkp a (upd _ _ _)).getD []).length≤_;rw[zCa];by_cases e:a=(kf p.2).1
    ·rw[if_pos e,Option.getD_some,List.length_append,List.length_singleton];have:=h2 (kf p.2).1;omega
    ·rw[if_neg e];have:=h2 a;omega
def linesOf(g:Grd)(kf:Int×Int→Int×Bool):List (List Int):=(sortZ ((linM kf (spotsL g)).map (·.1))).map fun n=>(lkp n (linM kf (spotsL g))).getD []
theorem zB0{g:Grd}(hg:zAB g)(kf:Int×Int→Int×Bool):(linesOf g kf).length≤256∧∀l∈linesOf g kf,l.length≤256:=by
 have h:=zHE kf _ (spotsL g) rfl;have hl:=hg.len;rw[zf]at h;unfold linesOf;refine⟨?_,fun l hl2=>?_⟩
 ·rw[List.length_map];have:(sortZ ((linM kf (spotsL g)).map (·.1))).length=((linM kf (spotsL g)).map (·.1)).length:=(List.mergeSort_perm _ _).length_eq;rw[this,List.length_map];omega
 ·obtain⟨n,_,rfl⟩:=List.mem_map.1 hl2;have:=h.2 n;omega
def zGA(acc:List (List Int))(l:List Int):List (List Int):=if acc.head? =some l then acc else acc++[l]
def dgFold(a b:List (List Int)):List (List Int):=b.foldl zGA a
theorem zFD{a b:List (List Int)}{k:Nat}{l:List Int}(h:b[k]? =some l):dgFold a (b.take (k+1))=zGA (dgFold a (b.take k)) l:=by
 unfold dgFold;rw[zP h,List.foldl_append];rfl
theorem zDp{a b:List (List Int)}{n:Nat}(ha:∀l∈a,l.length≤n)(hb:∀l∈b,l.length≤n):∀k,(dgFold a (b.take k)).length≤a.length+k∧∀l∈dgFold a (b.take k),l.length≤n
 |0=>⟨Nat.le_refl _,ha⟩
 |k+1=>by
  obtain⟨h1,h2⟩:=zDp ha hb k;cases h:b[k]? with
  |none=>
   have:b.take (k+1)=b.take k:=by rw[List.take_add_one,h];simp
   rw[this];exact⟨by omega,h2⟩
  |some l=>
   rw[zFD h];unfold zGA;split
   ·exact⟨by omega,h2⟩
   ·rw[List.length_append,List.length_singleton];refine⟨by omega,fun x hx=>?_⟩;rcases List.mem_append.1 hx with hx|hx
    ·exact h2 x hx
    ·rw[List.mem_singleton.1 hx];exact hb l (List.mem_of_getElem? h)
def zBK(g:Grd):List (List Int):=
 if g.shape=2 then linesOf g (fun s=>(s.1+s.2,true))
 else if g.w=g.h then dgFold (linesOf g (fun s=>(0,decide (s.1=s.2)))) (linesOf g (fun s=>(0,decide (s.1+s.2=g.w - 1))))
 else[]
theorem zDM{l:List Int}{x:Int}:x∈sortZ l↔x∈l:=(List.mergeSort_perm l _).mem_iff
theorem zPW:∀a c:Int,Value.int .i64 a=Value.int .i64 c→a=c:=fun a c h=>by injection h
def zGM(n:Nat):List (List Int):=(List.range n).map fun i:Nat=>[(i:Int)]
theorem zNi(k:Nat):zGM (k+1)=zGM k++[[(k:Int)]]:=by
 unfold zGM;rw[List.range_succ,List.map_append];rfl
theorem zON(k:Nat):(zGM k).length=k:=by unfold zGM;simp
def upTo'(n:Nat):List Int:=(List.range n).map fun i:Nat=>(i:Int)
theorem zGW(k:Nat):upTo' (k+1)=upTo' k++[(k:Int)]:=by
 unfold upTo';rw[List.range_succ,List.map_append];rfl
theorem zAr(k:Nat):(upTo' k).length=k:=by unfold upTo';simp
def zIU(nbs:List (List Int)):List (List Int):=nbs.zipIdx.map fun p=>sortZ (p.1++[(p.2:Int)])
theorem zLk{nbs:List (List Int)}{k:Nat}{l:List Int}(h:nbs[k]? =some l):zIU (nbs.take (k+1))=zIU (nbs.take k)++[sortZ (l++[(k:Int)])]:=by
 have hk:=(List.getElem?_eq_some_iff.1 h).1;unfold zIU;rw[zP h,List.zipIdx_append,List.map_append,List.length_take,Nat.min_eq_left (by omega)];simp
theorem zOL(nbs:List (List Int)):(zIU nbs).length=nbs.length:=by unfold zIU;simp
def zBh(i:Nat)(l:List Int):List (List Int):=(l.filter fun j=>decide ((i:Int)<j)).map fun j=>[(i:Int),j]
theorem zK1{i j:Nat}{l:List Int}{x:Int}(h:l[j]? =some x):zBh i (l.take (j+1))=zBh i (l.take j)++if(i:Int)<x then[[(i:Int),x]]else[]:=by
 unfold zBh;rw[zP h,List.filter_append,List.map_append];by_cases e:(i:Int)<x<;>simp[e]
theorem zII(i:Nat)(l:List Int):(zBh i l).length≤l.length:=by
 unfold zBh;rw[List.length_map];exact List.length_filter_le _ _
def fam6(nbs:List (List Int)):List (List Int):=nbs.zipIdx.flatMap fun p=>zBh p.2 p.1
theorem zHY{nbs:List (List Int)}{k:Nat}{l:List Int}(h:nbs[k]? =some l):fam6 (nbs.take (k+1))=fam6 (nbs.take k)++zBh k l:=by
 have hk:=(List.getElem?_eq_some_iff.1 h).1;unfold fam6;rw[zP h,List.zipIdx_append,List.flatMap_append,List.length_take,Nat.min_eq_left (by omega)];simp
theorem zGo{nbs:List (List Int)}(hn:∀l∈nbs,l.length≤6):∀k,k≤nbs.length→(fam6 (nbs.take k)).length≤6*k
 |0,_=>by simp[fam6]
 |k+1,hk=>by
  have h:nbs[k]? =some nbs[k]:=List.getElem?_eq_getElem (by omega);have:=zGo hn k (by omega);have h2:=zII k nbs[k];have h3:=hn nbs[k] (List.getElem_mem _);rw[zHY h,List.length_append];omega
theorem zFZ{g:Grd}:∀l∈nbsOf g,l.length≤6:=by
 intro l hl;obtain⟨p,_,rfl⟩:=List.mem_map.1 hl;unfold zBc;have h1:(sortZ (zj (atM (spotsL g)) p.2 (stepsL.take (manyOf g)))).length=(zj (atM (spotsL g)) p.2 (stepsL.take (manyOf g))).length:=(List.mergeSort_perm _ _).length_eq;have h2:=zDG (atM (spotsL g)) p.2 (stepsL.take (manyOf g));have h3:=zBJ g;rw[List.length_take]at h2;omega
def famOf(g:Grd)(k:Int):List (List Int):=
 if k=0 then zGM g.cells.length
 else if k=1 then linesOf g (fun s=>(s.2,true))
 else if k=2 then linesOf g (fun s=>(s.1,true))
 else if k=3 then zBK g
 else if k=4 then nbsOf g
 else if k=5 then zIU (nbsOf g)
 else if k=6 then fam6 (nbsOf g)
 else[upTo' g.cells.length]
end Kd
namespace Kd
open Go Go.Ideal
def zQO(p:Int):List Int→Nat
 |[]=>0
 |a::l=>if p=a then 0 else zQO p l+1
theorem zKK{p:Int}:∀{l:List Int} {n:Nat},l.Pairwise (·<·)→l[n]? =some p→zQO p l=n
 |[],n,_,h=>by simp at h
 |a::l,0,_,h=>by
  have h:a=p:=by simpa using h
  unfold zQO;rw[if_pos h.symm]
 |a::l,n+1,hp,h=>by
  have h:l[n]? =some p:=by simpa using h
  have h1:=(List.pairwise_cons.1 hp).1 p (List.mem_of_getElem? h);unfold zQO;rw[if_neg (by omega),zKK (List.pairwise_cons.1 hp).2 h]
theorem zIp{p:Int}:∀{l:List Int},p∈l→zQO p l<l.length
 |[],h=>by cases h
 |a::l,h=>by
  unfold zQO;by_cases e:p=a
  ·rw[if_pos e,List.length_cons];omega
  ·rw[if_neg e,List.length_cons];have:=zIp (p:=p) (l:=l) ((List.mem_cons.1 h).resolve_left e);omega
def zHP(xs:List Int):List (Int×Value):=xs.foldl (fun m c=>upd c (.bool true) m) []
theorem zER(xs:List Int)(c:Int):zHP (xs++[c])=upd c (.bool true) (zHP xs):=by
 unfold zHP;rw[List.foldl_append];rfl
theorem zMa(c:Int)(n:Nat):∀xs:List Int,xs.length=n→lkp c (zHP xs)=if c∈xs then some (.bool true)else none:=by
 induction n with
 |zero=>
  intro xs h;rw[List.length_eq_zero_iff.1 h];rfl
 |succ n ih=>
  intro xs h;obtain⟨ys,p,rfl⟩:∃ys p,xs=ys++[p]:=⟨xs.dropLast,xs.getLast (by intro e;rw[e]at h;cases h),(List.dropLast_concat_getLast _).symm⟩
  rw[zER,zCa,ih ys (by simpa using h)];by_cases e:c=p
  ·subst e;simp
  ·simp[e]
theorem zQt(c:Int)(xs:List Int):lkV false (.bool false) c (zHP xs)=.bool (decide (c∈xs)):=by
 unfold lkV;rw[zMa c _ xs rfl];by_cases e:c∈xs
 ·rw[if_pos e,decide_eq_true e];rfl
 ·rw[if_neg e,decide_eq_false e];rfl
theorem zHv:∀(m:Nat) (l:List Int),l.Nodup→(∀x∈l,0≤x∧x<(m:Int))→l.length≤m:=by
 intro m;induction m with
 |zero=>
  intro l _ h;cases l with
  |nil=>exact Nat.le_refl _
  |cons x l=>have:=h x (List.mem_cons_self ..);omega
 |succ m ih=>
  intro l hn h;have h1:=ih (l.erase (m:Int)) (hn.erase _) (fun x hx=>by
   have:=h x (List.mem_of_mem_erase hx);have hne:x≠(m:Int):=fun e=>by subst e;exact(List.Nodup.mem_erase_iff hn).1 hx|>.1 rfl
   omega)
  rw[List.length_erase]at h1;split at h1<;>omega
structure zTm(g:Grd)(ps:List Int):Prop where
 ne:ps≠[]
 mem:∀p∈ps,p∈g.cells
 nd:(ps.map fun p=>(zQO p g.cells:Int)).Nodup
structure zIY(g:Grd)(rs:List (List Int)):Prop where
 len:rs.length≤64
 all:∀ps∈rs,zTm g ps
def zAO(g:Grd)(ps:List Int):List Int:=ps.map fun p=>(zQO p g.cells:Int)
def regsOf(g:Grd)(rs:List (List Int)):List (List Int):=rs.map (zAO g)
theorem zFa{g:Grd}{ps:List Int}(hm:∀p∈ps,p∈g.cells)(hn:(zAO g ps).Nodup):ps.length≤g.cells.length:=by
 have:=zHv g.cells.length (zAO g ps) hn (fun x hx=>by
  obtain⟨p,hp,rfl⟩:=List.mem_map.1 hx;have:=zIp (hm p hp);omega)
 unfold zAO at this
 rwa [List.length_map]at this
end Kd
namespace Kd
open Go Go.Ideal
def zNk(xs:List Int):List (Int×Value):=(xs.foldl (fun s c=>(upd c (.int .i64 ((s.2.count c:Nat)+1)) s.1,s.2++[c])) (([]:List (Int×Value)),([]:List Int))).1
theorem zRL(xs:List Int):∀(m:List (Int×Value)) (ys:List Int),(xs.foldl (fun s c=>(upd c (.int .i64 ((s.2.count c:Nat)+1)) s.1,s.2++[c])) (m,ys)).2=ys++xs:=by
 induction xs with
 |nil=>intro m ys;simp
 |cons x xs ih=>intro m ys;rw[List.foldl_cons,ih];simp
theorem zE8(xs:List Int)(c:Int):zNk (xs++[c])=upd c (.int .i64 ((xs.count c:Nat)+1)) (zNk xs):=by
 unfold zNk;rw[List.foldl_append,List.foldl_cons,List.foldl_nil];show upd c _ _=_;rw[zRL,List.nil_append]
theorem zOZ(c:Int)(n:Nat):∀xs:List Int,xs.length=n→lkp c (zNk xs)=if c∈xs then some (.int .i64 (xs.count c:Nat))else none:=by
 induction n with
 |zero=>
  intro xs h;rw[List.length_eq_zero_iff.1 h];rfl
 |succ n ih=>
  intro xs h;obtain⟨ys,p,rfl⟩:∃ys p,xs=ys++[p]:=⟨xs.dropLast,xs.getLast (by intro e;rw[e]at h;cases h),(List.dropLast_concat_getLast _).symm⟩
  rw[zE8,zCa,ih ys (by simpa using h)];by_cases e:c=p
  ·subst e;simp
  ·have e2:¬p=c:=fun h=>e h.symm;simp[e,e2,List.count_cons,List.count_append]
theorem zQH(c:Int)(xs:List Int):lkV false (.int .i64 0) c (zNk xs)=.int .i64 (xs.count c:Nat):=by
 unfold lkV;rw[zOZ c _ xs rfl];by_cases e:c∈xs
 ·rw[if_pos e];rfl
 ·rw[if_neg e,List.count_eq_zero_of_not_mem e];rfl
theorem zMk(c:Int)(xs:List Int):xs.count c≤xs.length:=List.count_le_length ..
def zI(d:Dcl):Grd:=⟨d.shape,d.w,d.h,d.holes,zAJ d.w d.h d.holes⟩
def listsOf(d:Dcl):List (List (List Int)):=((List.range 8).map fun f:Nat=>famOf (zI d) (f:Int))++d.regions.map fun r=>regsOf (zI d) r.lists
def zIX(d:Dcl):Knd:=⟨d,zI d,nbsOf (zI d),listsOf d⟩
end Kd
