/- Part. -/
import Derived.Shelf.Spec.SlicesInsertGrow
import Derived.OwnWalk
import Derived.Test.YtignbinlipkmfaaGreatDoorLibMG
set_option linter.all false
set_option maxRecDepth 10000
set_option maxHeartbeats 4000000
namespace Go.Proofs.YtignbinlipkmfaaGreatDoor
open Tryz (prog)
open Go.Proofs Go.Shelf Go.RowKit Go.Lib
def ZJ:(prog.info? 22).map (λi=>(i.zero,i.size,i.bytes))=some (some (.slice none 0 0),1,24):=qk
def RQ:prog.follows .mixedOrders=true:=qk
set_option maxHeartbeats 4000000 in
set_option maxRecDepth 100000 in
def anc(b off n c i vb vo:Nat)(cs:ae ah)(v:ah)(w:World)(hi:i<n)(hroom:n+1<=c)(hbig:(n+1)*24<=140737488355328)(hvb:vb≠b)(hcl:cs.length=n)
 (hcs:∀j u,cs[j]? =some u->w.cell? ⟨b,off+j,none⟩=some u) (hsp:∀j,j<n+1->(w.cell? ⟨b,off+j,none⟩).isSome=true) (hfz:∀j,j<n+1->w.frozen? ⟨b,off+j,none⟩=false)
 (hv:w.cell? ⟨vb,vo,none⟩=some v) (h1c:∀u∈cs,u.oneCell'=true) (h1v:v.oneCell'=true)
 (tA tB:aB) (kA kB:Nat) (hsa:w.shape? vb=some (tA,kA)) (hsb:w.shape? b=some (tB,kB)) (hkB:kB≠0) (hfa:w.frozen? ⟨vb,vo,none⟩=false) (hfe:w.frozen? ⟨vb,kA,none⟩=false):
 Calls prog 108 #[.slice (some ⟨b,off,none⟩) n c,(Value.int .i64) i,.slice (some ⟨vb,vo,none⟩) 1 1] w λe w'=>
  e=.returned (.slice (some ⟨b,off,none⟩) (n+1) c)/\w'=(w.drew.setCells b (off+(i+1)) (cs.drop i)).setCells b (off+i) [v]:=by
 have u0:=run_underlying Tryz.underlying0;have u3:=run_underlying Tryz.underlying3;have u4:=run_underlying Tryz.underlying4;have u22:=run_underlying Tryz.underlying22;have u31:=run_underlying Tryz.underlying31;have a0:=Tryz.isAgg0;have z0:=Tryz.sizeOf0;have v0:=Tryz.zeroValue0;have a3:=Tryz.isAgg3;have z3:=Tryz.sizeOf3;have v3:=Tryz.zeroValue3;have a4:=Tryz.isAgg4;have z4:=Tryz.sizeOf4;have v4:=Tryz.zeroValue4;have a22:=Tryz.isAgg22;have z22:=Tryz.sizeOf22;have v22:=Tryz.zeroValue22;have a31:=Tryz.isAgg31;have z31:=Tryz.sizeOf31;have v31:=Tryz.zeroValue31;have hz2:¬((i:Int)=(n:Int)):=p0
 have hsz:(prog.info? 22).map (·.size)=some 1:=by
  obtain⟨i0,hi0,h0,h1,h2⟩:=info_parts ZJ;rw[hi0];simp[h1]
 have hov:∀lb cb,(callFunc 195 #[.slice (some ⟨vb,vo,none⟩) 1 1,.slice (some ⟨b,off+(i+1),none⟩) lb cb]).run prog w=.ok (.value (.bool false)) w:=λlb cb=>by
  rw[run_callFunc_extern Tryz.func195 qk qk qk (e:=Extern.SlicesOverlaps.overlaps #[31,31] #[4]) qk,
   Lib.run_overlaps_apart w 31 4 22 Tryz.underlying31 1 z22 ⟨vb,vo,none⟩ ⟨b,off+(i+1),none⟩ 1 1 lb cb hvb tA tB kA kB hsa hsb hkB hfa hfe]
  rfl
 have hdl:(cs.drop i).length=n - i:=by rw[lm,hcl]
 have mixed:=RQ;have hw1:IntKind.i64.wrap ((i:Int)+1)=(i:Int)+1:=wA
 have hb1:(0:Int)<=(i:Int)+1:=p0
 have hin:i<=n:=p0
 have htn:((i:Int)+1).toNat=i+1:=p0
 have hb2:¬(c=i+1):=p0
 have hb3:(i:Int)<=(n:Int)+1:=p0
 have hb4:¬(c=i):=p0
 have hcp1:∀ty dc sc,(Builtin.copy_ #[31,31] ty #[.slice (some ⟨b,off+(i+1),none⟩) (n - i) dc,.slice (some ⟨b,off+i,none⟩) (n+1 - i) sc]).run prog w.drew=.ok (goInt (cs.drop i).length) (w.drew.setCells b (off+(i+1)) (cs.drop i)):=λty dc sc=>
  run_copy_cells w.drew _ _ ty 22 b (off+(i+1)) (n - i) dc ⟨b,off+i,none⟩ (n+1 - i) sc (cs.drop i) Tryz.underlying31 hsz AE
   (λj u hj=>by rw[Addr.add_lit,kE];exact hcs (i+j) u (by rwa [jR]at hj))
   (λj hj=>by rw[kE];exact hsp _ p0) (λj hj=>by rw[kE];exact hfz _ p0) (λu hu=>h1c u (Dj hu))
 obtain⟨W1,hW1⟩:∃W1,W1=w.drew.setCells b (off+(i+1)) (cs.drop i):=⟨_,rfl⟩
 have hsp1:∀k,k<n+1->(W1.cell? ⟨b,off+k,none⟩).isSome=true:=λk hk=>by
  rw[hW1];exact isSome_setCells b _ _ _ (λj hj=>by rw[kE];exact hsp _ p0) _ (hsp k hk)
 have hcp2:∀(W:World),(∀x,W.cell? x=W1.cell? x)->(∀x,W.frozen? x=W1.frozen? x)->∀ty dc,(Builtin.copy_ #[31,31] ty #[.slice (some ⟨b,off+i,none⟩) (n+1 - i) dc,.slice (some ⟨vb,vo,none⟩) 1 1]).run prog W=.ok (goInt [v].length) (W.setCells b (off+i) [v]):=λW hWc hWf ty dc=>
  run_copy_cells W _ _ ty 22 b (off+i) (n+1 - i) dc ⟨vb,vo,none⟩ 1 1 [v] Tryz.underlying31 hsz AF
   (λj u hj=>by
     match j,hj with
     |0,hj=>
      cases hj;rw[Addr.add_lit,hWc,hW1,zJ b _ _ _ _ (λh _=>absurd h hvb)];exact hv
     |j+1,hj=>simp at hj)
   (λj hj=>by have hj:j<1:=hj;rw[hWc,kE];exact hsp1 _ p0) (λj hj=>by have hj:j<1:=hj;rw[hWf,hW1,IJ,kE];exact hfz _ p0) (λu hu=>by rw[bF.1 hu];exact h1v)
 rw[<- hW1]at hcp1
 go_enter Tryz.func108,Tryz.ntmps108
 go_wp2_with (simp only[hov])
 go_region_law_o (refine step_copy_runI rfl _ _ 31 31 rfl _ _ ud ud (hcp1 _ _ _) ?_)
 go_wp2_with (at_builtin;refine wpList_copy_runI _ rfl _ _ 31 31 rfl _ _ rfl rfl (hcp2 _ (λ_=>rfl) (λ_=>rfl) _ _) ?_)
 go_ret
 first|exact⟨rfl,rfl⟩|exact⟨rfl,by rw[hW1]⟩
set_option maxHeartbeats 4000000 in
set_option maxRecDepth 100000 in
def ane(b off n c i vb vo:Nat)(cs:ae ah)(v:ah)(w:World)(hi:i<n)(hnc:n<=c)(hroom:c<n+1)(hbig:(n+1)*24<=140737488355328)(hcl:cs.length=n)
 (hcs:∀j u,cs[j]? =some u->w.cell? ⟨b,off+j,none⟩=some u) (hv:w.cell? ⟨vb,vo,none⟩=some v) (h1c:∀u∈cs,u.oneCell'=true) (h1v:v.oneCell'=true):
 Calls prog 108 #[.slice (some ⟨b,off,none⟩) n c,(Value.int .i64) i,.slice (some ⟨vb,vo,none⟩) 1 1] w λe w'=>
  e=.returned (.slice (some ⟨w.heap.size,0,none⟩) (n+1) (grownCap w (n+1) c 22))/\
  w'=(((w.alloc (.cells ((cs.take i).toArray++Builtin.zeroCells (Value.slice none 0 0).cells (n+1 - i)++Builtin.zeroCells (Value.slice none 0 0).cells (grownCap w (n+1) c 22 - (n+1))) 22)).drew.setCells w.heap.size i [v]).drew).setCells w.heap.size (i+1) (cs.drop i):=by
 have u0:=run_underlying Tryz.underlying0;have u3:=run_underlying Tryz.underlying3;have u4:=run_underlying Tryz.underlying4;have u22:=run_underlying Tryz.underlying22;have u31:=run_underlying Tryz.underlying31;have a0:=Tryz.isAgg0;have z0:=Tryz.sizeOf0;have v0:=Tryz.zeroValue0;have a3:=Tryz.isAgg3;have z3:=Tryz.sizeOf3;have v3:=Tryz.zeroValue3;have a4:=Tryz.isAgg4;have z4:=Tryz.sizeOf4;have v4:=Tryz.zeroValue4;have a22:=Tryz.isAgg22;have z22:=Tryz.sizeOf22;have v22:=Tryz.zeroValue22;have a31:=Tryz.isAgg31;have z31:=Tryz.sizeOf31;have v31:=Tryz.zeroValue31;have mixed:=RQ;obtain⟨i0,hi0,hz0,hzs,hzb⟩:=info_parts ZJ;have hz2:¬((i:Int)=(n:Int)):=p0
 have hz3:(c:Int)<(n:Int)+1:=p0
 have hsz:(prog.info? 22).map (·.size)=some 1:=by rw[hi0];simp[hzs]
 have hbw:b<w.heap.size:=block_lt_of_cell (hcs 0 _ (bH p0));have hvw:vb<w.heap.size:=block_lt_of_cell hv;have hkk:(n:Int)+1 - (i:Int)=((n+1 - i:Nat):Int):=p0
 have hik:i+(n+1 - i)=n+1:=p0
 have hold:(Builtin.firstCells i0.size i (.slice (some ⟨b,off,none⟩) i c)).run prog w.drew=.ok (cs.take i).toArray w.drew:=by
  rw[hzs];exact run_firstCells_some w.drew 1 i ⟨b,off,none⟩ i c (cs.take i) sx (λj u hj=>by
   rw[Addr.add_lit];rw[qy]at hj;split at hj
   .exact hcs j u hj
   .cases hj)
 have hrz:∀ty,(Builtin.append_ #[31,3] ty #[.slice (some ⟨b,off,none⟩) i c,(Value.int .i64) ((n:Int)+1 - (i:Int))]).run prog w=
  .ok (.slice (some ⟨w.heap.size,0,none⟩) (n+1) (grownCap w (n+1) c 22)) (w.drew.alloc (.cells ((cs.take i).toArray++Builtin.zeroCells (Value.slice none 0 0).cells (n+1 - i)++Builtin.zeroCells (Value.slice none 0 0).cells (grownCap w (n+1) c 22 - (n+1))) 22)):=λty=>by
  have h:=Lib.run_append_grow_zeros w 31 3 ty 22 i0 _ .i64 .i64 Tryz.underlying31 Tryz.underlying3 hi0 hz0 (some ⟨b,off,none⟩) i c (cs.take i) hold (n+1 - i) p0 p0 p0 p0 (by rw[hzb];omega) (by rw[hzb,hik];exact growslice_fits hroom hbig);rw[hik]at h;rw[hkk];exact h
 obtain⟨G,hG⟩:∃G,G=grownCap w (n+1) c 22:=⟨_,rfl⟩
 obtain⟨ROW,hROW⟩:∃ROW:Array ah,ROW=(cs.take i).toArray++Builtin.zeroCells (Value.slice none 0 0).cells (n+1 - i)++Builtin.zeroCells (Value.slice none 0 0).cells (G - (n+1)):=⟨_,rfl⟩
 rw[<- hG]at hrz⊢;rw[<- hROW]at hrz⊢;have hRl:n+1<=ROW.size:=by
  rw[hROW];simp[Builtin.zeroCells,Value.cells];omega
 obtain⟨W1,hW1⟩:∃W1,W1=w.drew.alloc (.cells ROW 22):=⟨_,rfl⟩
 rw[<- hW1]at hrz;have hN:∀j,j<n+1->(W1.cell? ⟨w.heap.size,j,none⟩).isSome=true:=λj hj=>by
  rw[hW1,World.cell?_alloc_at (w:=w.drew) ROW _ w.heap.size j rfl,Nh p0];rfl
 have hNf:∀j,W1.frozen? ⟨w.heap.size,j,none⟩=false:=λj=>by rw[hW1];exact World.frozen?_alloc_at (w:=w.drew) ROW _ w.heap.size j rfl
 have hOb:∀j u,w.cell? ⟨b,j,none⟩=some u->W1.cell? ⟨b,j,none⟩=some u:=λj u h=>by rw[hW1,World.cell?_alloc_past (w:=w.drew) _ b j hbw];exact h
 have hOv:∀j u,w.cell? ⟨vb,j,none⟩=some u->W1.cell? ⟨vb,j,none⟩=some u:=λj u h=>by rw[hW1,World.cell?_alloc_past (w:=w.drew) _ vb j hvw];exact h
 have hcpA:∀(W:World),(∀x,W.cell? x=W1.cell? x)->(∀x,W.frozen? x=W1.frozen? x)->∀ty dc,(Builtin.copy_ #[31,31] ty #[.slice (some ⟨w.heap.size,i,none⟩) (n+1 - i) dc,.slice (some ⟨vb,vo,none⟩) 1 1]).run prog W=.ok (goInt [v].length) (W.setCells w.heap.size i [v]):=λW hWc hWf ty dc=>
  run_copy_cells W _ _ ty 22 w.heap.size i (n+1 - i) dc ⟨vb,vo,none⟩ 1 1 [v] Tryz.underlying31 hsz AF
   (λj u hj=>by
     match j,hj with
     |0,hj=>
      cases hj;rw[Addr.add_lit,hWc];exact hOv _ _ hv
     |j+1,hj=>simp at hj)
   (λj hj=>by have hj:j<1:=hj;rw[hWc];exact hN _ p0) (λj hj=>by rw[hWf];exact hNf _) (λu hu=>by rw[bF.1 hu];exact h1v)
 have hGn:n+1<=G:=by rw[hG];exact grownCap_ge w _ _ _
 have hG63:G<=9223372036854775807:=by
  have:=grownCap_le_maxLen w (n+1) c 22 (by unfold maxLen;omega);rw[<- hG]at this;unfold maxLen at this;omega
 have hGi:¬(G=i):=p0
 have hGim:¬(G=i+1):=p0
 have hci:¬(c=i):=p0
 have hbN:b≠w.heap.size:=p0
 have hdl:(cs.drop i).length=n - i:=by rw[lm,hcl]
 have hcpB:∀(W:World),(∀x,W.cell? x=(W1.setCells w.heap.size i [v]).cell? x)->(∀x,W.frozen? x=(W1.setCells w.heap.size i [v]).frozen? x)->∀ty dc sc,(Builtin.copy_ #[31,31] ty #[.slice (some ⟨w.heap.size,i+1,none⟩) (n - i) dc,.slice (some ⟨b,off+i,none⟩) (n - i) sc]).run prog W=.ok (goInt (cs.drop i).length) (W.setCells w.heap.size (i+1) (cs.drop i)):=λW hWc hWf ty dc sc=>
  run_copy_cells W _ _ ty 22 w.heap.size (i+1) (n - i) dc ⟨b,off+i,none⟩ (n - i) sc (cs.drop i) Tryz.underlying31 hsz AE
   (λj u hj=>by
     rw[Addr.add_lit,hWc,zJ _ _ _ _ _ (λh _=>absurd h hbN),kE];exact hOb _ u (hcs (i+j) u (by rwa [jR]at hj)))
   (λj hj=>by rw[hWc];exact isSome_setCells _ _ _ _ (λt ht=>hN _ (by have ht:t<1:=ht;omega)) _ (hN _ p0))
   (λj hj=>by rw[hWf,IJ];exact hNf _) (λu hu=>h1c u (Dj hu))
 subst hW1;have hE1:∀x,((w.alloc (.cells ROW 22)).drew).cell? x=(w.drew.alloc (.cells ROW 22)).cell? x:=λx=>rfl;have hE2:∀x,((w.alloc (.cells ROW 22)).drew).frozen? x=(w.drew.alloc (.cells ROW 22)).frozen? x:=λx=>rfl;have hF1:∀x,(((w.alloc (.cells ROW 22)).drew.setCells w.heap.size i [v]).drew).cell? x=((w.drew.alloc (.cells ROW 22)).setCells w.heap.size i [v]).cell? x:=λx=>rfl;have hF2:∀x,(((w.alloc (.cells ROW 22)).drew.setCells w.heap.size i [v]).drew).frozen? x=((w.drew.alloc (.cells ROW 22)).setCells w.heap.size i [v]).frozen? x:=λx=>rfl;have hw1:IntKind.i64.wrap ((i:Int)+1)=(i:Int)+1:=wA
 have hb1:(0:Int)<=(i:Int)+1:=p0
 have hin:i<=n:=p0
 have htn:((i:Int)+1).toNat=i+1:=p0
 have hb3:(i:Int)<=(n:Int):=p0
 clear hkk hik hold hROW hG hRl
 go_enter Tryz.func108,Tryz.ntmps108
 go_wp2_with (first
  |(at_builtin;refine Lib.wpList_append_run _ rfl _ _ _ _ rfl _ _ rfl rfl _ _ (hrz _) ?_)
  |(at_builtin;refine wpList_copy_runI _ rfl _ _ 31 31 rfl _ _ rfl rfl (hcpA _ hE1 hE2 _ _) ?_)
  |(at_builtin;refine wpList_copy_runI _ rfl _ _ 31 31 rfl _ _ rfl rfl (hcpB _ (λ_=>rfl) (λ_=>rfl) _ _ _) ?_))
 go_region_law_o (refine step_copy_runI rfl _ _ 31 31 rfl (.slice (some ⟨w.heap.size,i+1,none⟩) (n - i) (G - (i+1))) (.slice (some ⟨b,off+i,none⟩) (n - i) (c - i)) ud ud (hcpB _ hF1 hF2 3 (G - (i+1)) (c - i)) ?_)
 go_wp2
 go_ret
 exact⟨rfl,rfl⟩
open Go.Ideal Kd
variable{x:ak}
def zx{ρ:ak->ah}{a:Int}(hx:ρ x=iV a)(h1: -2^63<a/\a<2^63):Pu prog ρ (.un .neg x) (iV (-a)):=λh=>by
 simp only[aF.run,hx];have hw:IntKind.i64.wrap (0 - a)= -a:=wA
 have:jo prog (Op.unary .neg (iV a))=some (iV (-a)):=by
  unfold jo;have e:bX prog (Op.unary .neg (iV a))=some (iV (IntKind.i64.wrap (0 - a))):=rfl;rw[e,hw];rfl
 rw[this];rfl
def kg(p:Int×Int):Prop:= -1000<=p.1/\p.1<=1000/\ -1000<=p.2/\p.2<=1000
def pX(p:Int×Int):Prop:= -2000<=p.1/\p.1<=2000/\ -2000<=p.2/\p.2<=2000/\ -2000<=p.1+p.2/\p.1+p.2<=2000
variable{p:Int×Int}
def kg.q(h:kg p):pX p:=by unfold kg at h;unfold pX;omega
def Mv(p:Int×Int):Int×Int:=(-p.2,p.1+p.2)
def anf(h:pX p):pX (Mv p):=by unfold pX at *;unfold Mv;(try dsimp only);omega
def zy:Nat->Int×Int->Int×Int
 |0,p=>p
 |n+1,p=>Mv (zy n p)
def Mw{p:Int×Int}(h:pX p):∀n,pX (zy n p)
 |0=>h
 |n+1=>anf (Mw h n)
def tY(k:Nat)(p:Int×Int):Int×Int:=zy (k%6) (if 6<=k then(p.2,p.1)else p)
def ang(h:kg p)(k:Nat):pX (tY k p):=by
 refine Mw ?_ _;unfold kg at h;split<;>(unfold pX;(try dsimp only);omega)
def Bj:ae (Int×Int->Int×Int):=[λp=>p,λp=>(-p.1,p.2),λp=>(p.1, -p.2),λp=>(-p.1, -p.2),λp=>(p.2,p.1),λp=>(-p.2,p.1),λp=>(p.2, -p.1),λp=>(-p.2, -p.1)]
def jP(s:Int):ae (Int×Int->Int×Int):=if s=1 then Bj else(List.range 12).map tY
variable{f:Int×Int->Int×Int}{s:Int}
def anh(hf:f∈jP s){p:Int×Int}(h:kg p):pX (f p):=by
 unfold jP at hf;split at hf
 .unfold Bj at hf;unfold kg at h;simp only[bN,Fs,or_false]at hf;rcases hf with rfl|rfl|rfl|rfl|rfl|rfl|rfl|rfl<;>(unfold pX;(try dsimp only);omega)
 .obtain⟨k,_,rfl⟩:=cZ.1 hf;exact ang h k
def ZK(h:pX p):eU prog 263 [iD p] [] (iD (Mv p)):=by
 unfold pX at h;refine gB 263 λB w0=>?_;refine go ?_;intro b1 b2;refine go ?_;refine(bV rfl rfl (zx (a:=p.2) rfl p0)).h ?_;exact fH
def ani:eU prog 254 [iD p] [] (iD p):=by
 refine gB 254 λB w0=>?_;refine go ?_;intro b1 b2;exact fH
def anj:eU prog 258 [iD p] [] (iD (p.2,p.1)):=by
 refine gB 258 λB w0=>?_;refine go ?_;intro b1 b2;exact fH
def ank(h:kg p):eU prog 255 [iD p] [] (iD (-p.1,p.2)):=by
 unfold kg at h;refine gB 255 λB w0=>?_;refine go ?_;intro b1 b2;refine go ?_;refine(bV rfl rfl (zx (a:=p.1) rfl p0)).h ?_;exact fH
def anl(h:kg p):eU prog 256 [iD p] [] (iD (p.1, -p.2)):=by
 unfold kg at h;refine gB 256 λB w0=>?_;refine go ?_;intro b1 b2;refine go ?_;refine(bV rfl rfl (zx (a:=p.2) rfl p0)).h ?_;exact fH
def anm(h:kg p):eU prog 257 [iD p] [] (iD (-p.1, -p.2)):=by
 unfold kg at h;refine gB 257 λB w0=>?_;refine go ?_;intro b1 b2;refine go ?_;refine(bV rfl rfl (zx (a:=p.1) rfl p0)).h ?_;refine go ?_;refine(bV rfl rfl (zx (a:=p.2) rfl p0)).h ?_;exact fH
def ann(h:kg p):eU prog 259 [iD p] [] (iD (-p.2,p.1)):=by
 unfold kg at h;refine gB 259 λB w0=>?_;refine go ?_;intro b1 b2;refine go ?_;refine(bV rfl rfl (zx (a:=p.2) rfl p0)).h ?_;exact fH
def ano(h:kg p):eU prog 260 [iD p] [] (iD (p.2, -p.1)):=by
 unfold kg at h;refine gB 260 λB w0=>?_;refine go ?_;intro b1 b2;refine go ?_;refine(bV rfl rfl (zx (a:=p.1) rfl p0)).h ?_;exact fH
def anp(h:kg p):eU prog 261 [iD p] [] (iD (-p.2, -p.1)):=by
 unfold kg at h;refine gB 261 λB w0=>?_;refine go ?_;intro b1 b2;refine go ?_;refine(bV rfl rfl (zx (a:=p.2) rfl p0)).h ?_;refine go ?_;refine(bV rfl rfl (zx (a:=p.1) rfl p0)).h ?_;exact fH
variable{b k:Nat}
def anq(hk:k<12)(h:kg p):bA prog (.func 262) [iD p] [ptr' b] [] [dx b 0 [iV (k:Int)]] (λ_:Unit=>iD (tY k p)) (λ_=>[]) (λ_=>[]) (λ_=>True):=by
 have hb:=h;unfold kg at hb;refine gB 262 λB w0=>?_;refine go ?_;intro b2 b3;refine go ?_;have er:((k:Int)).tmod 6=((k%6:Nat):Int):=by rw[FC p0];omega
 refine uH rfl ?_ ?_<;>intro h1
 .refine go ?_;refine(bV (v:=iV ((k%6:Nat):Int)) rfl rfl BW).h ?_;refine go ?_;refine dS (λi:Nat=>6 - i) (λi=>[(13,iV (i:Int))]) (λi=>[pt b2 (.cells [iV (zy i (p.2,p.1)).1,iV (zy i (p.2,p.1)).2])]) (λ_=>[]) (λi=>i<=k%6) 0 (bS _) (hk:=qn) (body:=?_);intro i hi;refine aP ?_ ?_<;>intro h2
  .refine gC (ZK (p:=zy i (p.2,p.1)) (Mw (by unfold pX;(try dsimp only);omega) i)) λ_ _=>?_;refine go ?_;exact aY (i+1) p0 p0 (hk:=qn)
  obtain rfl:i=k%6:=p0
  refine go ?_;exact oM () (hv:=by unfold tY;rw[if_pos p0];rfl) (hp:=trivial)
 .refine go ?_;refine(bV (v:=iV ((k%6:Nat):Int)) rfl rfl BW).h ?_;refine go ?_;refine dS (λi:Nat=>6 - i) (λi=>[(13,iV (i:Int))]) (λi=>[pt b2 (.cells [iV (zy i p).1,iV (zy i p).2])]) (λ_=>[]) (λi=>i<=k%6) 0 (bS _) (hk:=qn) (body:=?_);intro i hi;refine aP ?_ ?_<;>intro h2
  .refine gC (ZK (p:=zy i p) (Mw h.q i)) λ_ _=>?_;refine go ?_;exact aY (i+1) p0 p0 (hk:=qn)
  obtain rfl:i=k%6:=p0
  refine go ?_;exact oM () (hv:=by unfold tY;rw[if_neg p0];rfl) (hp:=trivial)
variable{g:bM}
def anr(hg:fT g){x:Int}(hx:x∈g.cells):kg (jK g x):=by
 have hxb:=hg.cell x hx;have h2:=hg.make.wi;have hq:0<=x.tdiv g.w/\x.tdiv g.w<=x:=by
  exact fW
 have hr:0<=x.tmod g.w/\x.tmod g.w<=x:=by
  exact cQ
 have hq2:0<=(x.tdiv g.w).tdiv 2/\(x.tdiv g.w).tdiv 2<=x.tdiv g.w:=by
  rw[wY hq.1];omega
 unfold jK kg;split<;>(dsimp only;omega)
variable{vh vc:ah}
def ant{x:Int}(hg:fT g)(hx:x∈g.cells):eU prog 192 [.agg ⟨mI g vh vc⟩,iV x] [] (iD (jK g x)):=by
 have hxb:=hg.cell x hx;have ol:=hg.make.wi;have hq:0<=x.tdiv g.w/\x.tdiv g.w<=x:=by
  exact fW
 have hr:0<=x.tmod g.w/\x.tmod g.w<=x:=by
  exact cQ
 refine gB 192 λB w0=>?_;refine go ?_;intro b2 b4;refine go ?_;refine(bV rfl rfl (Kk (a:=x) (b:=g.w) rfl rfl p0)).h ?_;refine go ?_;refine(bV rfl rfl (Kj (a:=x) (b:=g.w) rfl rfl p0 p0 p0)).h ?_;refine aP ?_ ?_<;>intro h2
 .have hso:jK g x=(x.tmod g.w - (x.tdiv g.w).tdiv 2,x.tdiv g.w):=by unfold jK;rw[if_pos h2]
  have hq2:0<=(x.tdiv g.w).tdiv 2/\(x.tdiv g.w).tdiv 2<=x.tdiv g.w:=by
   rw[wY hq.1];omega
  rw[hso];refine go ?_;refine(bV rfl rfl (Kj (a:=x.tdiv g.w) (b:=2) rfl rfl p0 p0 p0)).h ?_;exact fH
 .have hso:jK g x=(x.tmod g.w,x.tdiv g.w):=by unfold jK;rw[if_neg h2]
  rw[hso];exact fH
def vB(c p:Int×Int):Int×Int:=(min c.1 p.1,min c.2 p.2)
def ny(l:ae (Int×Int)):Int×Int:=l.foldl vB (l.headD (0,0))
variable{l:ae (Int×Int)}{v:ah}
def ZL(h0:0<l.length)(hl:l.length<2^63):fC prog 193 [v] [aA r9 v l] (λ_:Unit=>iD (ny l)) (λ_=>True):=by
 refine gB 193 λB w0=>?_;refine gF r9 v l λal cl el=>?_;subst el;refine go ?_;intro b2;refine gX r9 (xs:=l) (k:=0) (h1:=h0) λ_ _ p (_:Unit) hp=>?_;have hhd:l.headD (0,0)=p:=by
  cases l with
  |nil=>cases hp
  |cons a l=>cases hp;rfl
 refine go ?_;intro b3;refine go ?_;refine dS (λi:Nat=>l.length - i) (λi=>[(11,iV (i:Int))]) (λi=>[pt b3 (.cells [iV ((l.take i).foldl vB p).1,iV ((l.take i).foldl vB p).2])]) (λ_=>[]) (λi=>i<=l.length) 0 (bS _) (hk:=qn) (body:=?_);intro i hi;refine aP ?_ ?_<;>intro h2
 .refine gX r9 (xs:=l) λ_ _ q (_:Unit) hq=>?_;refine go ?_;intro b5;refine go ?_;refine(bV rfl rfl (Em rfl rfl)).h ?_;refine go ?_;refine(bV rfl rfl (Em rfl rfl)).h ?_;refine go ?_;have e:(l.take (i+1)).foldl vB p=vB ((l.take i).foldl vB p) q:=by rw[gz hq,wX];rfl
  rw[show min ((l.take i).foldl vB p).1 q.1=((l.take (i+1)).foldl vB p).1 by rw[e];rfl,show min ((l.take i).foldl vB p).2 q.2=((l.take (i+1)).foldl vB p).2 by rw[e];rfl];exact dy
 obtain rfl:i=l.length:=p0
 refine go ?_;exact oM () (hv:=by unfold ny;rw[hhd,eH];rfl) (hp:=trivial)
def tZ(p:Int×Int):Prop:= -2000<=p.1/\p.1<=2000/\ -2000<=p.2/\p.2<=2000
def pX.c(h:pX p):tZ p:=by unfold pX at h;unfold tZ;omega
def ZM(h:∀p∈l,tZ p):tZ (ny l):=by
 have key:∀(l:ae (Int×Int)) (c:Int×Int),(∀p∈l,tZ p)->tZ c->tZ (l.foldl vB c):=by
  intro l;induction l with
  |nil=>intro c _ h;exact h
  |cons x l ih=>
   intro c hl hc;rw[p9];refine ih _ (λp hp=>hl p (dO _ hp)) ?_;have:=hl x (dP ..);unfold tZ at *;unfold vB;dsimp only;omega
 refine key l _ h ?_;cases l with
 |nil=>unfold tZ;decide
 |cons a l=>exact h a (dP ..)
def anu:∃fs:Array Field,prog.underlying 219=some (.struct fs)/\Ex prog fs.toList 0 [true,true]=true:=by
 refine⟨prog.fieldsOf 219,qk,qk⟩
def ZN:qf prog 219 iD where
 Cu a:=by
  show rC prog 219 (.agg ⟨[iV a.1,iV a.2]⟩)=true
  kernel_rfl
 find a ay es h:=by
  obtain⟨fs,hu,hrow⟩:=anu;refine Px hu (λa b=>rfl) (λa b=>?_) a ay es h;have:=Wo (P:=prog) (d:=9998) (t:=219) (xs:=[iV a.1,iV a.2]) (ys:=[iV b.1,iV b.2]) hu qk (row_of hrow rfl rfl (λj=>by rw[eB]) (λj=>by rw[eB]));refine Eq.trans this ?_;congr 1;show(decide (a.1=b.1)&&(decide (a.2=b.2)&&true))=_;rw[Bool.and_true,<- Bool.decide_and];exact sP.2 ⟨λh=>Prod.ext h.1 h.2,λh=>by rw[h];exact⟨rfl,rfl⟩⟩
 same a:=by
  show((⟨[Value.int .i64 a.1,iV a.2]⟩:Array ah).size==(⟨[Value.int .i64 a.1,iV a.2]⟩:Array ah).size&&(List.zip [Value.int .i64 a.1,iV a.2] [Value.int .i64 a.1,iV a.2]).all λ(x,y)=>Instr.sameBits 9999 x y)=true;simp[Instr.sameBits]
def E8(f:Int×Int->Int×Int)(v:ah):aH:=⟨λw=>∃fn cap Fx,v=.func fn ⟨[]⟩ ⟨cap⟩/\(∀p,kg p->bA prog fn [iD p] cap [] Fx (λ_:Unit=>iD (f p)) (λ_=>[]) (λ_=>[]) (λ_=>True))/\∀φ∈Fx,φ.p w,
 λa ⟨fn,cap,Fx,h1,h2,h3⟩=>⟨fn,cap,Fx,h1,h2,λφ hφ=>φ.mono a (h3 φ hφ)⟩⟩
def anv{fn:Fn}{cap:ae ah}(h:kg p):bA prog fn [iD p] cap [] [E8 f (.func fn ⟨[]⟩ ⟨cap⟩)] (λ_:Unit=>iD (f p)) (λ_=>[]) (λ_=>[]) (λ_=>True):=λB w s=>by
 obtain⟨fn',cap',Fx,e,h1,h2⟩:=s.facts _ (bF.2 rfl);injection e with e1 e2 e3;injection e3 with e3;subst e1 e3;exact h1 p h B w ⟨s.agree,s.le,s.eT,s.own,h2⟩
variable{B:ae Nat}{w0:Wd}{kl:ae OA}{F:ae aH}
def anw{Q:IH->Prop}(h:∀fn cap,v=.func fn ⟨[]⟩ ⟨cap⟩->R Q B w0 kl F)(hf:E8 f v∈F:=by exact gM):R Q B w0 kl F:=λw s=>by
 obtain⟨fn,cap,Fx,e,_⟩:=s.facts _ hf;exact h fn cap e w s
def Bl:Enc (Int×Int->Int×Int):=⟨1,ah,λ_ v=>[v],λf v=>[E8 f v],λ_ _=>rfl⟩
abbrev zz(n:eD):ah:=.func (.func n) ⟨[]⟩ ⟨[]⟩
def ZO:ae ah:=[zz 254,zz 255,zz 256,zz 257,zz 258,zz 259,zz 260,zz 261]
def Bn{n:eD}(h:∀p,kg p->eU prog n [iD p] [] (iD (f p)))(w:Wd):(E8 f (zz n)).p w:=⟨.func n,[],[],rfl,h,λφ hφ=>by cases hφ⟩
def anx(h:Bj[k]? =some f):∃v,ZO[k]? =some v/\∀w,(E8 f v).p w:=by
 unfold Bj at h;match k,h with
 |0,h=>injection h with h;subst h;exact⟨_,rfl,Bn λp hp=>ani⟩
 |1,h=>injection h with h;subst h;exact⟨_,rfl,Bn λp hp=>ank hp⟩
 |2,h=>injection h with h;subst h;exact⟨_,rfl,Bn λp hp=>anl hp⟩
 |3,h=>injection h with h;subst h;exact⟨_,rfl,Bn λp hp=>anm hp⟩
 |4,h=>injection h with h;subst h;exact⟨_,rfl,Bn λp hp=>anj⟩
 |5,h=>injection h with h;subst h;exact⟨_,rfl,Bn λp hp=>ann hp⟩
 |6,h=>injection h with h;subst h;exact⟨_,rfl,Bn λp hp=>ano hp⟩
 |7,h=>injection h with h;subst h;exact⟨_,rfl,Bn λp hp=>anp hp⟩
 |k+8,h=>cases h
def anz:pM (pt b (.cells ZO)) [aA Bl (.slice (some ⟨b,0,some 0⟩) 8 8) Bj]:=by
 intro w w' S ⟨h1,h2⟩ hle hh hz g hg;rw[bF.1 hg];refine .inr ⟨b,0,0,8,_,⟨rfl,qv,.inl rfl⟩,⟨hz b rj,.inl sn⟩,λk f hk=>?_⟩;obtain⟨v,hv,hc⟩:=anx hk;refine⟨v,λj u hj=>?_,λφ hφ=>by rw[bF.1 hφ];exact hc w'⟩;match j,hj with
 |0,hj=>
  have hj:some v=some u:=hj;rw[show 0+k*Bl.n+0=k by show 0+k*1+0=k;omega,hv,hj]
 |j+1,hj=>cases hj
def anA:bA prog (.func 194) [iV s] [] [] [] (λv:ah=>v) (λ_=>[]) (λv=>[aA Bl v (jP s)]) (λ_=>True):=by
 refine gB 194 λB w0=>?_;refine aP ?_ ?_<;>intro h1
 .refine go ?_;intro b3;refine go ?_;have hm:jP s=Bj:=by unfold jP;rw[if_pos h1]
  rw[hm];refine(bV (v:=.slice (some ⟨b3,0,some 0⟩) 8 8) rfl rfl (λh=>rfl)).h ?_;refine qN (anz (b:=b3)) (hk:=w7) (h:=?_);refine go ?_;exact gQ (.slice (some ⟨b3,0,some 0⟩) 8 8) trivial
 have hm:jP s=(List.range 12).map tY:=by unfold jP;rw[if_neg h1]
 refine go ?_;refine mF Bl ?_;refine dS (λy:Nat×ah=>12 - y.1) (λy=>[(12,iV (y.1:Int)),(4,y.2)]) (λy=>[ap Bl y.2 ((List.range y.1).map tY)]) (λ_=>[]) (λy=>y.1<=12) (0,.slice none 0 0) (bS _) (hk:=qn) (body:=?_);rintro⟨k,v⟩ hk;dsimp only at hk⊢;refine aP ?_ ?_<;>intro h2
 .refine go ?_;intro b5;refine go ?_;intro b17;refine gP b5 ?_;refine iN (E8 (tY k) (.func (.func 262) ⟨[]⟩ ⟨[ptr' b5]⟩)) (λw hw=>⟨_,_,[dx b5 0 [iV (k:Int)]],rfl,λp hp=>anq p0 hp,λφ hφ=>by rw[bF.1 hφ];exact hw _ (dP ..)⟩) ?_;refine l7 Bl (v:=v) (xs:=(List.range k).map tY) (tY k) (.func (.func 262) ⟨[]⟩ ⟨[ptr' b5]⟩) (cs:=[.func (.func 262) ⟨[]⟩ ⟨[ptr' b5]⟩]) (hm:=tM) (next:=λv2=>?_);refine go ?_;rw[aS,nP,show(List.range k).map tY++[tY k]=(List.range (k+1)).map tY by rw[BF,dQ];rfl];exact aY (k+1,.slice v2 (k+1) (k+1)) (by show 12 - (k+1)<12 - k;omega) (by show k+1<=12;omega)
 obtain rfl:k=12:=p0
 rw[hm];refine gZ jk ?_;exact pb
def Bo(l:ae (Int×Int)):ae ah:=dV r9 (l.map λp=>(p,()))
def ZP(n:Nat):zeros [iV 0,iV 0] n=Bo (List.replicate n (0,0)):=by
 induction n with
 |zero=>rfl
 |succ n ih=>
  show kF [iV 0,iV 0] (zeros [iV 0,iV 0] n)=_;rw[ih];rfl
def qX(l:ae (Int×Int))(n:Nat):ae (Int×Int):=l++List.replicate (n - l.length) (0,0)
variable{n:Nat}
def ZQ(h:l.length<=n):(qX l n).length=n:=by unfold qX;rw[dL,zS];omega
def ZR{x:Int×Int}(h:l.length<n):(qX l n).set l.length x=qX (l++[x]) n:=by
 unfold qX;rw[zQ _ _ (bz _),mM,show n - l.length=(n - (l++[x]).length)+1 by rw[dL,qA];omega,wV,fq];rfl
def ZT(h:l.length=n):qX l n=l:=by unfold qX;rw[h,mM];exact iH l
def anB{x:Int×Int}:Bo (l.set k x)=dV r9 ((l.map λp=>(p,())).set k (x,())):=by unfold Bo;rw[ul];rfl
variable{y:ak}{K:KO}{ds:ae Tmp}{rest:ae bJ}{D:ae Deferred}{pm:aj FrameMode}{ro:aj Nat}
def ZU{kl':ae OA}{l:qr}{g:aj (Tmp×Bool)}{L:ae (Int×Int)}{o:Nat}(q:Int×Int)(hlt:k<L.length)(ho:o=k*2)
 (next:R (λh=>aK prog ds rest (act n l D pm ro) h K) B w0 (pt b (.cells (Bo (L.set k q)))::kl') F)
 (hx:ev l x=.pointer (some ⟨b,o,none⟩):=by rfl) (hy:ev l y=iD q:=by rfl) (hk:aC (pt b (.cells (Bo L))) kl kl':=by exact dK) (hg:bK l g=true:=by rfl):
 R (λh=>aK prog ds (⟨⟨none,g,.store 2 x y⟩,[]⟩::rest) (act n l D pm ro) h K) B w0 kl F:=by
 rw[anB]at next
 exact aip r9 (aJ:=L.map λp=>(p,())) (k:=k) (o:=o) (m:=2) (q,()) (by rw[aS];exact hlt) ho next hx hy hk rfl hg
def ZV(h:l.length=n):pM (pt b (.cells (Bo l))) [aA r9 (.slice (some ⟨b,0,some 0⟩) n n) l]:=by
 subst h;intro w w' S ⟨h1,h2⟩ hle hh hz g hg;rw[bF.1 hg];refine .inr ⟨b,0,0,_,_,⟨rfl,bz _,.inl rfl⟩,⟨hz b rj,.inl sn⟩,λk x hk=>⟨(),λj u hj=>?_,λf hf=>by cases hf⟩⟩;rw[eB];exact AQ (p:=(x,())) (by rw[bU,hk];rfl) hj
variable{d bytes:Nat}
def anC{l:qr}{g:aj (Tmp×Bool)}{e:aB}{size:Nat}{zero:ae ah}(m:Nat)(hm:m*bytes<=1073741824/\m*size<=1073741824/\m<=1073741824)
 (next:∀b,R (λh=>aK prog ds rest (act n ((d,.slice (some ⟨b,0,some 0⟩) 0 m)::l) D pm ro) h K) B w0 (pt b (.cells (zeros zero m))::kl) F)
 (hx:ev l x=iV (Int.ofNat 0):=by rfl) (hy:ev l y=iV (m:Int):=by rfl) (hn:Nat.blt d n=true:=by rfl) (hg:bK l g=true:=by rfl):
 R (λh=>aK prog ds (⟨⟨some d,g,.zY e size bytes zero x y⟩,[]⟩::rest) (act n l D pm ro) h K) B w0 kl F:=λw s=>by
 have hle:∀{a b:Nat},a<=b->Nat.ble a b=true:=λh=>by rw[sO];exact h
 refine lG hn hg (h':=w.h.new (.cells (zeros zero m))) (v:=.slice (some ⟨w.h.next,0,some 0⟩) 0 m) ?_ (next w.h.next (w.new _) (s.new _));simp only[aF.run,aF.alloc,hx,hy];show rD (cond (Nat.ble 0 m&&Nat.ble (Nat.mul m bytes) small&&Nat.ble (Nat.mul m size) small&&Nat.ble m small) _ none) w.h=_;rw[hle (bS m),hle (show Nat.mul m bytes<=small from hm.1),hle (show Nat.mul m size<=small from hm.2.1),hle (show m<=small from hm.2.2)];rfl
def anD{k1 k2:ae OA}{l:qr}{g:aj (Tmp×Bool)}{e:aB}{b' m cap:Nat}{f:aj Nat}{s:ak}(v y:ah)(cs1 cs2:ae ah)(h1:cs1.length=m)(hc:m+1<=cap)
 (hm:(m+1)*bytes<=1073741824/\m+1<=1073741824)
 (next:R (λh=>aK prog ds rest (act n ((d,.slice (some ⟨b,0,f⟩) (m+1) cap)::l) D pm ro) h K) B w0 (pt b (.cells (cs1++v::cs2))::k2) F)
 (hs:ev l s=.slice (some ⟨b,0,f⟩) m cap:=by rfl) (hx:ev l x=.slice (some ⟨b',0,some 0⟩) 1 1:=by rfl) (hk:aC (pt b' (.cells [v])) kl k1:=by exact dK) (hk2:aC (pt b (.cells (cs1++y::cs2))) k1 k2:=by exact dK) (hn:Nat.blt d n=true:=by rfl) (hg:bK l g=true:=by rfl):
 R (λh=>aK prog ds (⟨⟨some d,g,.append e 1 bytes s x⟩,[]⟩::rest) (act n l D pm ro) h K) B w0 kl F:=λw st=>by
 have hle:∀{a b:Nat},a<=b->Nat.ble a b=true:=λh=>by rw[sO];exact h
 have st1:=st.fu hk;have hb':w.h.get b'=some (.cells [v]):=st1.get.1;have st2:=st1.tail.fu hk2;have hlv:iZ (cs1++y::cs2) cs1.length [v]=some (cs1++v::cs2):=by
  rw[PE qe];rfl
 refine lG hn hg (v:=.slice (some ⟨b,0,f⟩) (m+1) cap) (h':=w.h.set b (.cells (cs1++v::cs2))) ?_ (next ⟨w.h.set b _,w.z,λi hi=>w.lH i hi⟩ st2.write);have e1:w.h.storeAt b (Nat.add 0 (Nat.mul m 1)) [v]=some (w.h.set b (.cells (cs1++v::cs2))):=by
  unfold IH.storeAt;simp only[st2.get.1];rw[show Nat.add 0 (Nat.mul m 1)=cs1.length by rw[h1];show 0+m*1=m;omega,hlv]
 have r1:oD (.slice (some ⟨b',0,some 0⟩) 1 1)=some 1:=rfl;have r2:yA 1 1 (.slice (some ⟨b',0,some 0⟩) 1 1) w.h=some [v]:=by
  show w.h.iq b' 0 (1*1)=some [v];unfold IH.iq;simp only[hb'];rfl
 simp only[aF.run,hx,hs,r1,r2,w9];show cond (Nat.ble (Nat.mul (m+1) bytes) small&&Nat.ble (Nat.mul (m+1) 1) small&&Nat.ble (m+1) small) (cond (Nat.ble (m+1) cap) (match w.h.storeAt b (Nat.add 0 (Nat.mul m 1)) [v]with|some h=>some (Value.slice (some ⟨b,0,f⟩) (m+1) cap,h)|none=>none) _) none=_;rw[hle (show Nat.mul (m+1) bytes<=small from hm.1),hle (show Nat.mul (m+1) 1<=small by show(m+1)*1<=1073741824;omega),hle (show m+1<=small from hm.2),hle hc,e1];rfl
def vC(p c:Int×Int):Int×Int:=(p.1 - c.1,p.2 - c.2)
def fJ(g:bM):ae (Int×Int):=g.cells.map (jK g)
def ql(xW:ae (Int×Int))(low:Int×Int)(k:Nat):ae ((Int×Int)×ah):=((xW.zipIdx).take k).foldl (λm q=>upd (vC q.1 low) (iV (q.2:Int)) m) []
def E9(m:ae ((Int×Int)×ah))(a:Int×Int):aj Int:=match bZ a m with
 |some (.int .i64 i)=>some i
 |_=>none
def sJ(g:bM)(f:Int×Int->Int×Int):aj (ae Int):=
 let to:=(fJ g).map f
 let l:=to.filterMap λp=>E9 (ql (fJ g) (ny (fJ g)) g.cells.length) (vC p (ny to))
 if l.length=to.length then some l else none
def sK(g:bM):ae (ae Int):=(jP g.shape).filterMap (sJ g)
variable{low:Int×Int}{xW:ae (Int×Int)}
def anE:∀k,∀p∈ql xW low k,∃i:Nat,p.2=iV (i:Int):=by
 intro k;unfold ql;have key:∀(l:ae ((Int×Int)×Nat)) (m:ae ((Int×Int)×ah)),(∀p∈m,∃i:Nat,p.2=iV (i:Int))->∀p∈l.foldl (λm q=>upd (vC q.1 low) (iV (q.2:Int)) m) m,∃i:Nat,p.2=iV (i:Int):=by
  intro l;induction l with
  |nil=>intro m h;exact h
  |cons q l ih=>
   intro m h;rw[p9];refine ih _ λp hp=>?_;have hu:∀(m:ae ((Int×Int)×ah)),(∀p∈m,∃i:Nat,p.2=iV (i:Int))->∀p∈upd (vC q.1 low) (iV (q.2:Int)) m,∃i:Nat,p.2=iV (i:Int):=by
    intro m;induction m with
    |nil=>intro _ p hp;rw[bF.1 hp];exact⟨_,rfl⟩
    |cons c m ihm=>
     intro h p hp;obtain⟨c1,c2⟩:=c;unfold upd at hp;split at hp
     .rcases bN.1 hp with rfl|hp
      .exact⟨_,rfl⟩
      .exact h p (dO _ hp)
     .rcases bN.1 hp with rfl|hp
      .exact h _ (dP ..)
      .exact ihm (λp hp=>h p (dO _ hp)) p hp
   exact hu m h p hp
 exact key _ [] (λp hp=>by cases hp)
variable{a:Int×Int}
def anG{m:ae ((Int×Int)×ah)}(h:bZ a m=some v):∃b,(b,v)∈m:=by
 induction m with
 |nil=>cases h
 |cons c m ih=>
  obtain⟨c1,c2⟩:=c;unfold bZ at h;split at h
  .cases h;exact⟨_,dP ..⟩
  .obtain⟨b,hb⟩:=ih h;exact⟨b,dO _ hb⟩
def anH:(∃i:Nat,E9 (ql xW low k) a=some (i:Int)/\jd true (iV 0) a (ql xW low k)=.tuple #[iV (i:Int),.bool true])\/(E9 (ql xW low k) a=none/\jd true (iV 0) a (ql xW low k)=.tuple #[iV 0,.bool false]):=by
 unfold E9 jd;cases h:bZ a (ql xW low k)with
 |none=>exact .inr ⟨rfl,rfl⟩
 |some v=>
  left;obtain⟨b,hb⟩:=anG h;obtain⟨i,hi⟩:=anE k _ hb;dsimp only at hi;subst hi;exact⟨i,rfl,rfl⟩
def ZW{α:Type}{a b c:ae α}(h:aM a b c):∀k:ae α,aM (k++a) (k++b) c
 |[]=>h
 |x::k=>.cons .here (ZW h k)
def anI{bg:Nat}(hg:fT g):PD prog (λy:ah×ae Int=>[y.1]) (λy=>[aA ai y.1 y.2]) (.func 191) [] [ptr' bg] [dx bg 0 (mI g vh vc),aA ai vc g.cells] (λxs=>xs.map (·.2)=sK g):=by
 intro S inv ok step s0 xG y1 y2 F' h0 hok hy;dsimp only[List.cons_append,List.nil_append];have hcl:g.cells.length<=256:=hg.len;have hcp:0<g.cells.length:=XP hg;refine gB 191 λB w0=>?_;refine gF ai vc g.cells λac cc ec=>?_;subst ec;refine go ?_;refine ww g.cells.length ⟨p0,p0,p0⟩ λbm=>?_;rw[ZP];refine go ?_;refine dS (λi=>g.cells.length - i) (λi:Nat=>[(28,iV (i:Int))]) (λi=>[pt bm (.cells (Bo (qX ((fJ g).take i) g.cells.length)))]) (λ_=>[]) (λi=>i<=g.cells.length) 0 (bS _) (hk:=qn) (body:=?_);intro i hi;refine aP ?_ ?_<;>intro h1
 .refine go ?_;intro _ _ x hx;refine gC (ant (g:=g) (vh:=vh) (vc:=.slice ac g.cells.length cc) (x:=x) hg (aV hx)) λ_ _=>?_;refine go ?_;have hfi:((fJ g).take i).length=i:=by unfold fJ;rw[gq,aS];omega
  have hfx:(fJ g)[i]? =some (jK g x):=by unfold fJ;rw[bU,hx];rfl
  refine ZU (L:=qX ((fJ g).take i) g.cells.length) (k:=i) (o:=0+i*2) (jK g x) (by rw[ZQ p0];omega) p0 ?_;have hst:(qX ((fJ g).take i) g.cells.length).set i (jK g x)=qX ((fJ g).take (i+1)) g.cells.length:=by
   have:=ZR (l:=(fJ g).take i) (n:=g.cells.length) (x:=jK g x) p0;rw[hfi]at this;rw[this,gz hfx]
  rw[hst];refine go ?_;exact dy
 obtain rfl:i=g.cells.length:=p0
 have hfl:(fJ g).length=g.cells.length:=by unfold fJ;rw[aS]
 rw[zV p0,ZT hfl];refine gZ (ZV hfl) ?_;generalize(some (⟨bm,0,some 0⟩:Addr))=am;refine gC (ZL (l:=fJ g) p0 p0) λ_ _=>?_;refine go ?_;intro b6;refine go ?_;have hsb:∀p∈fJ g,kg p:=λp hp=>by
  obtain⟨x,hx,rfl⟩:=cZ.1 hp;exact anr hg hx
 have hlow:=ZM (l:=fJ g) (λp hp=>(hsb p hp).q.c);unfold tZ at hlow;refine wz iD (λb7=>?_);refine go ?_;refine dS (λi=>g.cells.length - i) (λi:Nat=>[(45,iV (i:Int))]) (λi=>[fw iD b7 (ql (fJ g) (ny (fJ g)) i)]) (λ_=>[]) (λi=>i<=g.cells.length) 0 (bS _) (hk:=qn) (body:=?_);intro i hi;refine aP ?_ ?_<;>intro h1
 .refine gX r9 (xs:=fJ g) λ_ _ p (_:Unit) hp=>?_;have hpb:=(hsb p (aV hp))
  unfold kg at hpb;refine go ?_;intro b9;refine go ?_;refine tu ZN (vC p (ny (fJ g))) ?_ (ha:=rfl);have hz:(fJ g).zipIdx[i]? =some (p,i):=by rw[SH,hp];simp
  have hat:upd (vC p (ny (fJ g))) (iV (i:Int)) (ql (fJ g) (ny (fJ g)) i)=ql (fJ g) (ny (fJ g)) (i+1):=by
   unfold ql;rw[gz hz,wX];rfl
  rw[hat];refine go ?_;exact dy
 obtain rfl:i=g.cells.length:=p0
 refine gZ Cv ?_;refine gC (anA (s:=g.shape)) λvm _=>?_;refine gF Bl vm (jP g.shape) λamp cmp emp=>?_;subst emp;have hml:(jP g.shape).length<=12:=by unfold jP;split<;>simp[Bj]
 refine go ?_;refine dS (λy:Nat×ae (ah×ae Int)×S=>(jP g.shape).length - y.1) (λy=>[(68,iV (y.1:Int))]) (λy=>inv y.2.2) (λ_=>[]) (λy=>y.1<=(jP g.shape).length/\ok y.2.1 y.2.2/\y.2.1.map (·.2)=((jP g.shape).take y.1).filterMap (sJ g)/\∀rest,iG step s0 (y.2.1++rest)=iG step y.2.2 rest) (0,[],s0) ⟨bS _,h0,rfl,λ_=>rfl⟩ (body:=?_);rintro⟨j,fI,xX⟩ ⟨hj,hos,Iu,hrun⟩;dsimp only at hj hos Iu hrun⊢;refine aP ?_ ?_<;>intro h1
 rotate_left
 .have hr2:=hrun [];rw[iH]at hr2;refine go ?_;exact gQ fI (by show fI.map (·.2)=sK g;rw[Iu,zV p0];rfl) (hk:=by rw[hr2];exact aM.self _ _)
 refine gX Bl (xs:=jP g.shape) λ_ _ f (vf:ah) hf=>?_;have hfm:=aV hf;have hdr:(jP g.shape).drop j=f::(jP g.shape).drop (j+1):=by
  obtain⟨h2,h3⟩:=aT.1 hf;rw[<- h3];exact pg h2
 refine anw (f:=f) (v:=vf) (λfn cap ef=>?_);subst ef;refine go ?_;refine ww g.cells.length ⟨p0,p0,p0⟩ λbt=>?_;rw[ZP];refine go ?_;have htl:((fJ g).map f).length=g.cells.length:=by rw[aS,hfl]
 refine dS (λi=>g.cells.length - i) (λi:Nat=>[(77,iV (i:Int))]) (λi=>[pt bt (.cells (Bo (qX (((fJ g).map f).take i) g.cells.length)))]) (λ_=>[]) (λi=>i<=g.cells.length) 0 (bS _) (hk:=qn) (body:=?_);intro i hi;refine aP ?_ ?_<;>intro h2
 .refine gX r9 (xs:=fJ g) λ_ _ p (_:Unit) hp=>?_;refine go ?_;intro b14;refine gC (anv (f:=f) (fn:=fn) (cap:=cap) (p:=p) (hsb p (aV hp))) λ_ _=>?_;refine go ?_;have hfi:(((fJ g).map f).take i).length=i:=by rw[gq];omega
  have hfx:((fJ g).map f)[i]? =some (f p):=by rw[bU,hp];rfl
  refine ZU (L:=qX (((fJ g).map f).take i) g.cells.length) (k:=i) (o:=0+i*2) (f p) (by rw[ZQ p0];omega) p0 ?_;have hst:(qX (((fJ g).map f).take i) g.cells.length).set i (f p)=qX (((fJ g).map f).take (i+1)) g.cells.length:=by
   have:=ZR (l:=((fJ g).map f).take i) (n:=g.cells.length) (x:=f p) p0;rw[hfi]at this;rw[this,gz hfx]
  rw[hst];refine go ?_;exact dy
 obtain rfl:i=g.cells.length:=p0
 rw[zV p0,ZT htl];refine gZ (ZV htl) ?_;generalize(some (⟨bt,0,some 0⟩:Addr))=at_;refine go ?_;have htb:∀p∈(fJ g).map f,tZ p:=λp hp=>by
  obtain⟨q,hq,rfl⟩:=cZ.1 hp;exact(anh hfm (hsb q hq)).c
 have hct:=ZM htb;unfold tZ at hct;refine jY (ZL (l:=(fJ g).map f) p0 p0) (next:=λ_ _=>?_);refine go ?_;intro b15;refine go ?_;refine anC g.cells.length ⟨p0,p0,p0⟩ λbl=>?_;rw[EX];refine go ?_;generalize hto:(fJ g).map f=to at *;generalize hφ:(λp=>E9 (ql (fJ g) (ny (fJ g)) g.cells.length) (vC p (ny to)))=φ;have hfe:sJ g f=if(to.filterMap φ).length=to.length then some (to.filterMap φ)else none:=by
  unfold sJ;dsimp only;rw[hto,hφ]
 refine dS (λi=>g.cells.length - i) (λi:Nat=>[(96,iV (i:Int)),(16,.slice (some ⟨bl,0,some 0⟩) ((to.take i).filterMap φ).length g.cells.length)]) (λi=>[pt bl (.cells ((gW ((to.take i).filterMap φ) g.cells.length).map iV))]) (λ_=>[]) (λi=>i<=g.cells.length) 0 (bS _) (hk:=qn) (body:=?_);intro i hi;have hle:((to.take i).filterMap φ).length<=i:=mh (SK ..) sx;refine aP ?_ ?_<;>intro h3
 .refine gX r9 (xs:=to) λ_ _ p (_:Unit) hp=>?_;have hpb:=htb p (aV hp);unfold tZ at hpb;refine go ?_;intro b18;refine go ?_;refine Pp ZN (vC p (ny to)) ?_ (ha:=rfl);have hφp:φ p=E9 (ql (fJ g) (ny (fJ g)) g.cells.length) (vC p (ny to)):=by rw[<- hφ]
  have htk:(to.take (i+1)).filterMap φ=(to.take i).filterMap φ++(match φ p with|some x=>[x]|none=>[]):=by
   rw[gz hp,IV];congr 1;rw[S9];cases φ p<;>rfl
  rcases anH (xW:=fJ g) (low:=ny (fJ g)) (a:=vC p (ny to)) (k:=g.cells.length)with⟨x,e1,e2⟩|⟨e1,e2⟩
  .rw[<- hφp]at e1;rw[e1]at htk;rw[show jd true (iV 0) (vC p (ny to)) (ql (fJ g) (ny (fJ g)) g.cells.length)=.tuple #[iV (x:Int),.bool true]from e2];refine go ?_;intro b19;have anJ:(gW ((to.take i).filterMap φ) g.cells.length).map (Value.int .i64)=((to.take i).filterMap φ).map iV++iV 0::(List.replicate (g.cells.length - ((to.take i).filterMap φ).length - 1) 0).map iV:=by
    unfold gW;rw[show g.cells.length - ((to.take i).filterMap φ).length=(g.cells.length - ((to.take i).filterMap φ).length - 1)+1 by omega,wV,dQ,fK];rfl
   rw[anJ];refine anD (b:=bl) (b':=b19) (m:=((to.take i).filterMap φ).length) (cap:=g.cells.length) (f:=some 0) (iV (x:Int)) (iV 0) (((to.take i).filterMap φ).map iV) ((List.replicate (g.cells.length - ((to.take i).filterMap φ).length - 1) 0).map iV) (by rw[aS]) p0 ⟨p0,p0⟩ ?_;have anK:((to.take i).filterMap φ).map (Value.int .i64)++iV (x:Int)::(List.replicate (g.cells.length - ((to.take i).filterMap φ).length - 1) 0).map iV=(gW ((to.take (i+1)).filterMap φ) g.cells.length).map iV:=by
    rw[htk];unfold gW;rw[dQ,dQ,fq,dL,qA,Nat.sub_sub];rfl
   have hpl:((to.take i).filterMap φ).length+1=((to.take (i+1)).filterMap φ).length:=by rw[htk,dL];rfl
   rw[anK,hpl];refine go ?_;exact dy
  .rw[<- hφp]at e1;rw[e1]at htk;rw[show jd true (iV 0) (vC p (ny to)) (ql (fJ g) (ny (fJ g)) g.cells.length)=.tuple #[iV 0,.bool false]from e2];refine go ?_;rw[iH]at htk;rw[<- htk];exact dy
 obtain rfl:i=g.cells.length:=p0
 rw[zV p0]at hle⊢;generalize hls:to.filterMap φ=ls at *;refine go ?_;by_cases hL:((ls.length:Int)=(g.cells.length:Int))
 .rw[fo hL];have hln:ls.length=g.cells.length:=by omega
  rw[CY hln];refine gZ (Av (b:=bl) (f:=0) (c:=g.cells.length) (xs:=ls) (hc:=p0)) ?_;have Mx:sJ g f=some ls:=by rw[hfe,if_pos p0]
  generalize DY:((.slice (some ⟨bl,0,some 0⟩) ls.length g.cells.length,ls):ah×ae Int)=yy;have hX:(fI++yy::(((jP g.shape).drop (j+1)).filterMap (sJ g)).map λq=>((.slice none 0 0:ah),q)).map (·.2)=sK g:=by
   have hy2:yy.2=ls:=by rw[<- DY]
   have e1:sK g=((jP g.shape).take j).filterMap (sJ g)++((jP g.shape).drop j).filterMap (sJ g):=by
    rw[<- IV,qz];rfl
   rw[e1,hdr,S9,Mx,dQ,Iu,fK,qB,hy2];congr 2;exact(Fy _).symm▸rfl
  have sG:=hy fI xX yy _ hos hX;dsimp only at sG;rw[show yy.1=.slice (some ⟨bl,0,some 0⟩) ls.length g.cells.length by rw[<- DY],show yy.2=ls by rw[<- DY]]at sG;rw[fG,dW]at sG;refine gC sG λ_ _=>?_;cases hst:(step xX yy).2 with
  |true=>
   have hs1:step xX yy=((step xX yy).1,true):=Prod.ext rfl hst;refine go ?_;refine aY (j+1,fI++[yy],(step xX yy).1) AH ⟨by show j+1<=_;omega,hok _ xX _ _ hos hX hst,?_,λrest=>?_⟩ (hk:=ZW (.cons (.there .here) .nil) _)
   .show(fI++[yy]).map (·.2)=((jP g.shape).take (j+1)).filterMap (sJ g);rw[gz hf,IV,dQ,Iu,S9,Mx,yo,show yy.2=ls by rw[<- DY]];rfl
   .show iG step s0 (fI++[yy]++rest)=_;rw[fq,hrun];show iG step xX (yy::rest)=_;rw[iG,hs1]
  |false=>
   have hs1:step xX yy=((step xX yy).1,false):=Prod.ext rfl hst;have hr:=hrun (yy::(((jP g.shape).drop (j+1)).filterMap (sJ g)).map λq=>((.slice none 0 0:ah),q));rw[iG,hs1]at hr;dsimp only at hr;refine go ?_;exact gQ (fI++yy::(((jP g.shape).drop (j+1)).filterMap (sJ g)).map λq=>((.slice none 0 0:ah),q)) hX (hk:=by rw[hr];first|exact aM.all _|exact aM.self _ _)
 .rw[di hL];have Mx:sJ g f=none:=by rw[hfe,if_neg p0]
  refine go ?_;refine aY (j+1,fI,xX) AH ⟨by show j+1<=_;omega,hos,?_,hrun⟩;show fI.map (·.2)=((jP g.shape).take (j+1)).filterMap (sJ g);rw[gz hf,IV,Iu,S9,Mx];exact(iH _).symm
def anL:bA prog (.func 105) [.agg ⟨mI g vh vc⟩] [] [] [] (λb:Nat=>.func (.func 191) #[] #[ptr' b]) (λ_=>[]) (λb=>[dx b 0 (mI g vh vc)]) (λ_=>True):=by
 refine gB 105 λB w0=>?_;refine go ?_;intro b1;refine gP b1 ?_;refine go ?_;exact gQ b1 trivial
