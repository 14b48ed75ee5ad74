/- Part. -/
import Derived.Shelf.Spec.SlicesInsertGrow
import Derived.OwnWalk
import Derived.Test.YtgimfpcgbmpkhaaGreatLibMT
set_option linter.all false
set_option maxRecDepth 10000
set_option maxHeartbeats 4000000
namespace Go.Proofs.YtgimfpcgbmpkhaaGreat
open Tryz (prog)
open Go.Proofs Go.Shelf Go.RowKit Go.Lib
def ad5:(prog.info? 22).map (λi=>(i.zero,i.size,i.bytes))=some (some (.slice none 0 0),1,24):=s8
def Ws:prog.follows .mixedOrders=true:=s8
set_option maxHeartbeats 4000000 in
set_option maxRecDepth 100000 in
def arT(b off n c i vb vo:Nat)(cs:ae ah)(v:ah)(w:World)(hi:i<n)(hroom:n+1<=c)(hbig:(n+1)*24<=140737488355328)(hvb:vb≠b)(hcl:cs.length=n)
 (hcs:∀j u,cs[j]? =some u->w.cell? ⟨b,off+j,none⟩=some u) (hsp:∀j,j<n+1->(w.cell? ⟨b,off+j,none⟩).isSome=true) (hfz:∀j,j<n+1->w.frozen? ⟨b,off+j,none⟩=false)
 (hv:w.cell? ⟨vb,vo,none⟩=some v) (h1c:∀u∈cs,u.oneCell'=true) (h1v:v.oneCell'=true)
 (tA tB:aM) (kA kB:Nat) (hsa:w.shape? vb=some (tA,kA)) (hsb:w.shape? b=some (tB,kB)) (hkB:kB≠0) (hfa:w.frozen? ⟨vb,vo,none⟩=false) (hfe:w.frozen? ⟨vb,kA,none⟩=false):
 Calls prog 246 #[.slice (some ⟨b,off,none⟩) n c,(Value.int .i64) i,.slice (some ⟨vb,vo,none⟩) 1 1] w λe w'=>
  e=.returned (.slice (some ⟨b,off,none⟩) (n+1) c)/\w'=(w.drew.setCells b (off+(i+1)) (cs.drop i)).setCells b (off+i) [v]:=by
 have u0:=run_underlying Tryz.underlying0;have u3:=run_underlying Tryz.underlying3;have u4:=run_underlying Tryz.underlying4;have u22:=run_underlying Tryz.underlying22;have u31:=run_underlying Tryz.underlying31;have a0:=Tryz.isAgg0;have z0:=Tryz.sizeOf0;have v0:=Tryz.zeroValue0;have a3:=Tryz.isAgg3;have z3:=Tryz.sizeOf3;have v3:=Tryz.zeroValue3;have a4:=Tryz.isAgg4;have z4:=Tryz.sizeOf4;have v4:=Tryz.zeroValue4;have a22:=Tryz.isAgg22;have z22:=Tryz.sizeOf22;have v22:=Tryz.zeroValue22;have a31:=Tryz.isAgg31;have z31:=Tryz.sizeOf31;have v31:=Tryz.zeroValue31;have hz2:¬((i:Int)=(n:Int)):=s6
 have hsz:(prog.info? 22).map (·.size)=some 1:=by
  obtain⟨i0,hi0,h0,h1,h2⟩:=info_parts ad5;rw[hi0];simp[h1]
 have hov:∀lb cb,(callFunc 308 #[.slice (some ⟨vb,vo,none⟩) 1 1,.slice (some ⟨b,off+(i+1),none⟩) lb cb]).run prog w=.ok (.value (.bool false)) w:=λlb cb=>by
  rw[run_callFunc_extern Tryz.func308 s8 s8 s8 (e:=Extern.SlicesOverlaps.overlaps #[31,31] #[4]) s8,
   Lib.run_overlaps_apart w 31 4 22 Tryz.underlying31 1 z22 ⟨vb,vo,none⟩ ⟨b,off+(i+1),none⟩ 1 1 lb cb hvb tA tB kA kB hsa hsb hkB hfa hfe]
  rfl
 have hdl:(cs.drop i).length=n - i:=by rw[uo,hcl]
 have mixed:=Ws;have hw1:IntKind.i64.wrap ((i:Int)+1)=(i:Int)+1:=B8
 have hb1:(0:Int)<=(i:Int)+1:=s6
 have hin:i<=n:=s6
 have htn:((i:Int)+1).toNat=i+1:=s6
 have hb2:¬(c=i+1):=s6
 have hb3:(i:Int)<=(n:Int)+1:=s6
 have hb4:¬(c=i):=s6
 have hcp1:∀ty dc sc,(Builtin.copy_ #[31,31] ty #[.slice (some ⟨b,off+(i+1),none⟩) (n - i) dc,.slice (some ⟨b,off+i,none⟩) (n+1 - i) sc]).run prog w.drew=.ok (goInt (cs.drop i).length) (w.drew.setCells b (off+(i+1)) (cs.drop i)):=λty dc sc=>
  run_copy_cells w.drew _ _ ty 22 b (off+(i+1)) (n - i) dc ⟨b,off+i,none⟩ (n+1 - i) sc (cs.drop i) Tryz.underlying31 hsz D0
   (λj u hj=>by rw[Addr.add_lit,pR];exact hcs (i+j) u (by rwa [rH]at hj))
   (λj hj=>by rw[pR];exact hsp _ s6) (λj hj=>by rw[pR];exact hfz _ s6) (λu hu=>h1c u (IZ hu))
 obtain⟨W1,hW1⟩:∃W1,W1=w.drew.setCells b (off+(i+1)) (cs.drop i):=⟨_,rfl⟩
 have hsp1:∀k,k<n+1->(W1.cell? ⟨b,off+k,none⟩).isSome=true:=λk hk=>by
  rw[hW1];exact isSome_setCells b _ _ _ (λj hj=>by rw[pR];exact hsp _ s6) _ (hsp k hk)
 have hcp2:∀(W:World),(∀x,W.cell? x=W1.cell? x)->(∀x,W.frozen? x=W1.frozen? x)->∀ty dc,(Builtin.copy_ #[31,31] ty #[.slice (some ⟨b,off+i,none⟩) (n+1 - i) dc,.slice (some ⟨vb,vo,none⟩) 1 1]).run prog W=.ok (goInt [v].length) (W.setCells b (off+i) [v]):=λW hWc hWf ty dc=>
  run_copy_cells W _ _ ty 22 b (off+i) (n+1 - i) dc ⟨vb,vo,none⟩ 1 1 [v] Tryz.underlying31 hsz D3
   (λj u hj=>by
     match j,hj with
     |0,hj=>
      cases hj;rw[Addr.add_lit,hWc,hW1,BM b _ _ _ _ (λh _=>absurd h hvb)];exact hv
     |j+1,hj=>simp at hj)
   (λj hj=>by have hj:j<1:=hj;rw[hWc,pR];exact hsp1 _ s6) (λj hj=>by have hj:j<1:=hj;rw[hWf,hW1,Ma,pR];exact hfz _ s6) (λu hu=>by rw[bR.1 hu];exact h1v)
 rw[<- hW1]at hcp1
 go_enter Tryz.func246,Tryz.ntmps246
 go_wp2_with (simp only[hov])
 go_region_law_o (refine step_copy_runI rfl _ _ 31 31 rfl _ _ As As (hcp1 _ _ _) ?_)
 go_wp2_with (at_builtin;refine wpList_copy_runI _ rfl _ _ 31 31 rfl _ _ rfl rfl (hcp2 _ (λ_=>rfl) (λ_=>rfl) _ _) ?_)
 go_ret
 first|exact⟨rfl,rfl⟩|exact⟨rfl,by rw[hW1]⟩
set_option maxHeartbeats 4000000 in
set_option maxRecDepth 100000 in
def arU(b off n c i vb vo:Nat)(cs:ae ah)(v:ah)(w:World)(hi:i<n)(hnc:n<=c)(hroom:c<n+1)(hbig:(n+1)*24<=140737488355328)(hcl:cs.length=n)
 (hcs:∀j u,cs[j]? =some u->w.cell? ⟨b,off+j,none⟩=some u) (hv:w.cell? ⟨vb,vo,none⟩=some v) (h1c:∀u∈cs,u.oneCell'=true) (h1v:v.oneCell'=true):
 Calls prog 246 #[.slice (some ⟨b,off,none⟩) n c,(Value.int .i64) i,.slice (some ⟨vb,vo,none⟩) 1 1] w λe w'=>
  e=.returned (.slice (some ⟨w.heap.size,0,none⟩) (n+1) (grownCap w (n+1) c 22))/\
  w'=(((w.alloc (.cells ((cs.take i).toArray++Builtin.zeroCells (Value.slice none 0 0).cells (n+1 - i)++Builtin.zeroCells (Value.slice none 0 0).cells (grownCap w (n+1) c 22 - (n+1))) 22)).drew.setCells w.heap.size i [v]).drew).setCells w.heap.size (i+1) (cs.drop i):=by
 have u0:=run_underlying Tryz.underlying0;have u3:=run_underlying Tryz.underlying3;have u4:=run_underlying Tryz.underlying4;have u22:=run_underlying Tryz.underlying22;have u31:=run_underlying Tryz.underlying31;have a0:=Tryz.isAgg0;have z0:=Tryz.sizeOf0;have v0:=Tryz.zeroValue0;have a3:=Tryz.isAgg3;have z3:=Tryz.sizeOf3;have v3:=Tryz.zeroValue3;have a4:=Tryz.isAgg4;have z4:=Tryz.sizeOf4;have v4:=Tryz.zeroValue4;have a22:=Tryz.isAgg22;have z22:=Tryz.sizeOf22;have v22:=Tryz.zeroValue22;have a31:=Tryz.isAgg31;have z31:=Tryz.sizeOf31;have v31:=Tryz.zeroValue31;have mixed:=Ws;obtain⟨i0,hi0,hz0,hzs,hzb⟩:=info_parts ad5;have hz2:¬((i:Int)=(n:Int)):=s6
 have hz3:(c:Int)<(n:Int)+1:=s6
 have hsz:(prog.info? 22).map (·.size)=some 1:=by rw[hi0];simp[hzs]
 have hbw:b<w.heap.size:=block_lt_of_cell (hcs 0 _ (bN s6));have hvw:vb<w.heap.size:=block_lt_of_cell hv;have hkk:(n:Int)+1 - (i:Int)=((n+1 - i:Nat):Int):=s6
 have hik:i+(n+1 - i)=n+1:=s6
 have hold:(Builtin.firstCells i0.size i (.slice (some ⟨b,off,none⟩) i c)).run prog w.drew=.ok (cs.take i).toArray w.drew:=by
  rw[hzs];exact run_firstCells_some w.drew 1 i ⟨b,off,none⟩ i c (cs.take i) tR (λj u hj=>by
   rw[Addr.add_lit];rw[wP]at hj;split at hj
   .exact hcs j u hj
   .cases hj)
 have hrz:∀ty,(Builtin.append_ #[31,3] ty #[.slice (some ⟨b,off,none⟩) i c,(Value.int .i64) ((n:Int)+1 - (i:Int))]).run prog w=
  .ok (.slice (some ⟨w.heap.size,0,none⟩) (n+1) (grownCap w (n+1) c 22)) (w.drew.alloc (.cells ((cs.take i).toArray++Builtin.zeroCells (Value.slice none 0 0).cells (n+1 - i)++Builtin.zeroCells (Value.slice none 0 0).cells (grownCap w (n+1) c 22 - (n+1))) 22)):=λty=>by
  have h:=Lib.run_append_grow_zeros w 31 3 ty 22 i0 _ .i64 .i64 Tryz.underlying31 Tryz.underlying3 hi0 hz0 (some ⟨b,off,none⟩) i c (cs.take i) hold (n+1 - i) s6 s6 s6 s6 (by rw[hzb];omega) (by rw[hzb,hik];exact growslice_fits hroom hbig);rw[hik]at h;rw[hkk];exact h
 obtain⟨G,hG⟩:∃G,G=grownCap w (n+1) c 22:=⟨_,rfl⟩
 obtain⟨ROW,hROW⟩:∃ROW:Array ah,ROW=(cs.take i).toArray++Builtin.zeroCells (Value.slice none 0 0).cells (n+1 - i)++Builtin.zeroCells (Value.slice none 0 0).cells (G - (n+1)):=⟨_,rfl⟩
 rw[<- hG]at hrz⊢;rw[<- hROW]at hrz⊢;have hRl:n+1<=ROW.size:=by
  rw[hROW];simp[Builtin.zeroCells,Value.cells];omega
 obtain⟨W1,hW1⟩:∃W1,W1=w.drew.alloc (.cells ROW 22):=⟨_,rfl⟩
 rw[<- hW1]at hrz;have hN:∀j,j<n+1->(W1.cell? ⟨w.heap.size,j,none⟩).isSome=true:=λj hj=>by
  rw[hW1,World.cell?_alloc_at (w:=w.drew) ROW _ w.heap.size j rfl,Array.getElem?_eq_getElem s6];rfl
 have hNf:∀j,W1.frozen? ⟨w.heap.size,j,none⟩=false:=λj=>by rw[hW1];exact World.frozen?_alloc_at (w:=w.drew) ROW _ w.heap.size j rfl
 have hOb:∀j u,w.cell? ⟨b,j,none⟩=some u->W1.cell? ⟨b,j,none⟩=some u:=λj u h=>by rw[hW1,World.cell?_alloc_past (w:=w.drew) _ b j hbw];exact h
 have hOv:∀j u,w.cell? ⟨vb,j,none⟩=some u->W1.cell? ⟨vb,j,none⟩=some u:=λj u h=>by rw[hW1,World.cell?_alloc_past (w:=w.drew) _ vb j hvw];exact h
 have hcpA:∀(W:World),(∀x,W.cell? x=W1.cell? x)->(∀x,W.frozen? x=W1.frozen? x)->∀ty dc,(Builtin.copy_ #[31,31] ty #[.slice (some ⟨w.heap.size,i,none⟩) (n+1 - i) dc,.slice (some ⟨vb,vo,none⟩) 1 1]).run prog W=.ok (goInt [v].length) (W.setCells w.heap.size i [v]):=λW hWc hWf ty dc=>
  run_copy_cells W _ _ ty 22 w.heap.size i (n+1 - i) dc ⟨vb,vo,none⟩ 1 1 [v] Tryz.underlying31 hsz D3
   (λj u hj=>by
     match j,hj with
     |0,hj=>
      cases hj;rw[Addr.add_lit,hWc];exact hOv _ _ hv
     |j+1,hj=>simp at hj)
   (λj hj=>by have hj:j<1:=hj;rw[hWc];exact hN _ s6) (λj hj=>by rw[hWf];exact hNf _) (λu hu=>by rw[bR.1 hu];exact h1v)
 have hGn:n+1<=G:=by rw[hG];exact grownCap_ge w _ _ _
 have hG63:G<=9223372036854775807:=by
  have:=grownCap_le_maxLen w (n+1) c 22 (by unfold maxLen;omega);rw[<- hG]at this;unfold maxLen at this;omega
 have hGi:¬(G=i):=s6
 have hGim:¬(G=i+1):=s6
 have hci:¬(c=i):=s6
 have hbN:b≠w.heap.size:=s6
 have hdl:(cs.drop i).length=n - i:=by rw[uo,hcl]
 have hcpB:∀(W:World),(∀x,W.cell? x=(W1.setCells w.heap.size i [v]).cell? x)->(∀x,W.frozen? x=(W1.setCells w.heap.size i [v]).frozen? x)->∀ty dc sc,(Builtin.copy_ #[31,31] ty #[.slice (some ⟨w.heap.size,i+1,none⟩) (n - i) dc,.slice (some ⟨b,off+i,none⟩) (n - i) sc]).run prog W=.ok (goInt (cs.drop i).length) (W.setCells w.heap.size (i+1) (cs.drop i)):=λW hWc hWf ty dc sc=>
  run_copy_cells W _ _ ty 22 w.heap.size (i+1) (n - i) dc ⟨b,off+i,none⟩ (n - i) sc (cs.drop i) Tryz.underlying31 hsz D0
   (λj u hj=>by
     rw[Addr.add_lit,hWc,BM _ _ _ _ _ (λh _=>absurd h hbN),pR];exact hOb _ u (hcs (i+j) u (by rwa [rH]at hj)))
   (λj hj=>by rw[hWc];exact isSome_setCells _ _ _ _ (λt ht=>hN _ (by have ht:t<1:=ht;omega)) _ (hN _ s6))
   (λj hj=>by rw[hWf,Ma];exact hNf _) (λu hu=>h1c u (IZ hu))
 subst hW1;have hE1:∀x,((w.alloc (.cells ROW 22)).drew).cell? x=(w.drew.alloc (.cells ROW 22)).cell? x:=λx=>rfl;have hE2:∀x,((w.alloc (.cells ROW 22)).drew).frozen? x=(w.drew.alloc (.cells ROW 22)).frozen? x:=λx=>rfl;have hF1:∀x,(((w.alloc (.cells ROW 22)).drew.setCells w.heap.size i [v]).drew).cell? x=((w.drew.alloc (.cells ROW 22)).setCells w.heap.size i [v]).cell? x:=λx=>rfl;have hF2:∀x,(((w.alloc (.cells ROW 22)).drew.setCells w.heap.size i [v]).drew).frozen? x=((w.drew.alloc (.cells ROW 22)).setCells w.heap.size i [v]).frozen? x:=λx=>rfl;have hw1:IntKind.i64.wrap ((i:Int)+1)=(i:Int)+1:=B8
 have hb1:(0:Int)<=(i:Int)+1:=s6
 have hin:i<=n:=s6
 have htn:((i:Int)+1).toNat=i+1:=s6
 have hb3:(i:Int)<=(n:Int):=s6
 clear hkk hik hold hROW hG hRl
 go_enter Tryz.func246,Tryz.ntmps246
 go_wp2_with (first
  |(at_builtin;refine Lib.wpList_append_run _ rfl _ _ _ _ rfl _ _ rfl rfl _ _ (hrz _) ?_)
  |(at_builtin;refine wpList_copy_runI _ rfl _ _ 31 31 rfl _ _ rfl rfl (hcpA _ hE1 hE2 _ _) ?_)
  |(at_builtin;refine wpList_copy_runI _ rfl _ _ 31 31 rfl _ _ rfl rfl (hcpB _ (λ_=>rfl) (λ_=>rfl) _ _ _) ?_))
 go_region_law_o (refine step_copy_runI rfl _ _ 31 31 rfl (.slice (some ⟨w.heap.size,i+1,none⟩) (n - i) (G - (i+1))) (.slice (some ⟨b,off+i,none⟩) (n - i) (c - i)) As As (hcpB _ hF1 hF2 3 (G - (i+1)) (c - i)) ?_)
 go_wp2
 go_ret
 exact⟨rfl,rfl⟩
open Go.Ideal Kd
variable{x:aB}
def BB{ρ:aB->ah}{a:Int}(hx:ρ x=iV a)(h1: -2^63<a/\a<2^63):Pu prog ρ (.un .neg x) (iV (-a)):=λh=>by
 simp only[aR.run,hx];have hw:IntKind.i64.wrap (0 - a)= -a:=B8
 have:lC prog (Op.unary .neg (iV a))=some (iV (-a)):=by
  unfold lC;have e:dX prog (Op.unary .neg (iV a))=some (iV (IntKind.i64.wrap (0 - a))):=rfl;rw[e,hw];rfl
 rw[this];rfl
def lN(p:Int×Int):Prop:= -1000<=p.1/\p.1<=1000/\ -1000<=p.2/\p.2<=1000
def rE(p:Int×Int):Prop:= -2000<=p.1/\p.1<=2000/\ -2000<=p.2/\p.2<=2000/\ -2000<=p.1+p.2/\p.1+p.2<=2000
variable{p:Int×Int}
def lN.q(h:lN p):rE p:=by unfold lN at h;unfold rE;omega
def Qt(p:Int×Int):Int×Int:=(-p.2,p.1+p.2)
def arV(h:rE p):rE (Qt p):=by unfold rE at *;unfold Qt;(try dsimp only);omega
def BC:Nat->Int×Int->Int×Int
 |0,p=>p
 |n+1,p=>Qt (BC n p)
def Qu{p:Int×Int}(h:rE p):∀n,rE (BC n p)
 |0=>h
 |n+1=>arV (Qu h n)
def wJ(k:Nat)(p:Int×Int):Int×Int:=BC (k%6) (if 6<=k then(p.2,p.1)else p)
def arW(h:lN p)(k:Nat):rE (wJ k p):=by
 refine Qu ?_ _;unfold lN at h;split<;>(unfold rE;(try dsimp only);omega)
def Dy:ae (Int×Int->Int×Int):=[λp=>p,λp=>(-p.1,p.2),λp=>(p.1, -p.2),λp=>(-p.1, -p.2),λp=>(p.2,p.1),λp=>(-p.2,p.1),λp=>(p.2, -p.1),λp=>(-p.2, -p.1)]
def lm(s:Int):ae (Int×Int->Int×Int):=if s=1 then Dy else(List.range 12).map wJ
variable{f:Int×Int->Int×Int}{s:Int}
def arX(hf:f∈lm s){p:Int×Int}(h:lN p):rE (f p):=by
 unfold lm at hf;split at hf
 .unfold Dy at hf;unfold lN at h;simp only[dm,IR,or_false]at hf;rcases hf with rfl|rfl|rfl|rfl|rfl|rfl|rfl|rfl<;>(unfold rE;(try dsimp only);omega)
 .obtain⟨k,_,rfl⟩:=cO.1 hf;exact arW h k
def ad6(h:rE p):dO prog 349 [jl p] [] (jl (Qt p)):=by
 unfold rE at h;refine gB 349 λB w0=>?_;refine go ?_;intro b1 b2;refine go ?_;refine(dx rfl rfl (BB (a:=p.2) rfl s6)).h ?_;exact dH
def arY:dO prog 340 [jl p] [] (jl p):=by
 refine gB 340 λB w0=>?_;refine go ?_;intro b1 b2;exact dH
def arZ:dO prog 344 [jl p] [] (jl (p.2,p.1)):=by
 refine gB 344 λB w0=>?_;refine go ?_;intro b1 b2;exact dH
def ar0(h:lN p):dO prog 341 [jl p] [] (jl (-p.1,p.2)):=by
 unfold lN at h;refine gB 341 λB w0=>?_;refine go ?_;intro b1 b2;refine go ?_;refine(dx rfl rfl (BB (a:=p.1) rfl s6)).h ?_;exact dH
def ar2(h:lN p):dO prog 342 [jl p] [] (jl (p.1, -p.2)):=by
 unfold lN at h;refine gB 342 λB w0=>?_;refine go ?_;intro b1 b2;refine go ?_;refine(dx rfl rfl (BB (a:=p.2) rfl s6)).h ?_;exact dH
def ar3(h:lN p):dO prog 343 [jl p] [] (jl (-p.1, -p.2)):=by
 unfold lN at h;refine gB 343 λB w0=>?_;refine go ?_;intro b1 b2;refine go ?_;refine(dx rfl rfl (BB (a:=p.1) rfl s6)).h ?_;refine go ?_;refine(dx rfl rfl (BB (a:=p.2) rfl s6)).h ?_;exact dH
def ar4(h:lN p):dO prog 345 [jl p] [] (jl (-p.2,p.1)):=by
 unfold lN at h;refine gB 345 λB w0=>?_;refine go ?_;intro b1 b2;refine go ?_;refine(dx rfl rfl (BB (a:=p.2) rfl s6)).h ?_;exact dH
def ar5(h:lN p):dO prog 346 [jl p] [] (jl (p.2, -p.1)):=by
 unfold lN at h;refine gB 346 λB w0=>?_;refine go ?_;intro b1 b2;refine go ?_;refine(dx rfl rfl (BB (a:=p.1) rfl s6)).h ?_;exact dH
def ar6(h:lN p):dO prog 347 [jl p] [] (jl (-p.2, -p.1)):=by
 unfold lN at h;refine gB 347 λB w0=>?_;refine go ?_;intro b1 b2;refine go ?_;refine(dx rfl rfl (BB (a:=p.2) rfl s6)).h ?_;refine go ?_;refine(dx rfl rfl (BB (a:=p.1) rfl s6)).h ?_;exact dH
variable{b k:Nat}
def ar7(hk:k<12)(h:lN p):aY prog (.func 348) [jl p] [ptr' b] [] [aX b 0 [iV (k:Int)]] (λ_:Unit=>jl (wJ k p)) (λ_=>[]) (λ_=>[]) (λ_=>True):=by
 have hb:=h;unfold lN at hb;refine gB 348 λB w0=>?_;refine go ?_;intro b2 b3;refine go ?_;have er:((k:Int)).tmod 6=((k%6:Nat):Int):=by rw[I1 s6];omega
 refine rU rfl ?_ ?_<;>intro h1
 .refine go ?_;refine(dx (v:=iV ((k%6:Nat):Int)) rfl rfl Fo).h ?_;refine go ?_;refine dL (λi:Nat=>6 - i) (λi=>[(13,iV (i:Int))]) (λi=>[pt b2 (.cells [iV (BC i (p.2,p.1)).1,iV (BC i (p.2,p.1)).2])]) (λ_=>[]) (λi=>i<=k%6) 0 (bI _) (hk:=tc) (body:=?_);intro i hi;refine aK ?_ ?_<;>intro h2
  .refine gC (ad6 (p:=BC i (p.2,p.1)) (Qu (by unfold rE;(try dsimp only);omega) i)) λ_ _=>?_;refine go ?_;exact aW (i+1) s6 s6 (hk:=tc)
  obtain rfl:i=k%6:=s6
  refine go ?_;exact ou () (hv:=by unfold wJ;rw[if_pos s6];rfl) (hp:=trivial)
 .refine go ?_;refine(dx (v:=iV ((k%6:Nat):Int)) rfl rfl Fo).h ?_;refine go ?_;refine dL (λi:Nat=>6 - i) (λi=>[(13,iV (i:Int))]) (λi=>[pt b2 (.cells [iV (BC i p).1,iV (BC i p).2])]) (λ_=>[]) (λi=>i<=k%6) 0 (bI _) (hk:=tc) (body:=?_);intro i hi;refine aK ?_ ?_<;>intro h2
  .refine gC (ad6 (p:=BC i p) (Qu h.q i)) λ_ _=>?_;refine go ?_;exact aW (i+1) s6 s6 (hk:=tc)
  obtain rfl:i=k%6:=s6
  refine go ?_;exact ou () (hv:=by unfold wJ;rw[if_neg s6];rfl) (hp:=trivial)
variable{g:bY}
def ar8(hg:ig g){x:Int}(hx:x∈g.cells):lN (kX g x):=by
 have hxb:=hg.cell x hx;have h2:=hg.make.wi;have hq:0<=x.tdiv g.w/\x.tdiv g.w<=x:=by
  exact j7
 have hr:0<=x.tmod g.w/\x.tmod g.w<=x:=by
  exact ez
 have hq2:0<=(x.tdiv g.w).tdiv 2/\(x.tdiv g.w).tdiv 2<=x.tdiv g.w:=by
  rw[zk hq.1];omega
 unfold kX lN;split<;>(dsimp only;omega)
variable{vh vc:ah}
def ar9{x:Int}(hg:ig g)(hx:x∈g.cells):dO prog 305 [.agg ⟨oG g vh vc⟩,iV x] [] (jl (kX g x)):=by
 have hxb:=hg.cell x hx;have nC:=hg.make.wi;have hq:0<=x.tdiv g.w/\x.tdiv g.w<=x:=by
  exact j7
 have hr:0<=x.tmod g.w/\x.tmod g.w<=x:=by
  exact ez
 refine gB 305 λB w0=>?_;refine go ?_;intro b2 b4;refine go ?_;refine(dx rfl rfl (NV (a:=x) (b:=g.w) rfl rfl s6)).h ?_;refine go ?_;refine(dx rfl rfl (NU (a:=x) (b:=g.w) rfl rfl s6 s6 s6)).h ?_;refine aK ?_ ?_<;>intro h2
 .have hso:kX g x=(x.tmod g.w - (x.tdiv g.w).tdiv 2,x.tdiv g.w):=by unfold kX;rw[if_pos h2]
  have hq2:0<=(x.tdiv g.w).tdiv 2/\(x.tdiv g.w).tdiv 2<=x.tdiv g.w:=by
   rw[zk hq.1];omega
  rw[hso];refine go ?_;refine(dx rfl rfl (NU (a:=x.tdiv g.w) (b:=2) rfl rfl s6 s6 s6)).h ?_;exact dH
 .have hso:kX g x=(x.tmod g.w,x.tdiv g.w):=by unfold kX;rw[if_neg h2]
  rw[hso];exact dH
def xN(c p:Int×Int):Int×Int:=(min c.1 p.1,min c.2 p.2)
def oV(l:ae (Int×Int)):Int×Int:=l.foldl xN (l.headD (0,0))
variable{l:ae (Int×Int)}{v:ah}
def ad7(h0:0<l.length)(hl:l.length<2^63):fC prog 306 [v] [ay uR v l] (λ_:Unit=>jl (oV l)) (λ_=>True):=by
 refine gB 306 λB w0=>?_;refine gF uR v l λal cl el=>?_;subst el;refine go ?_;intro b2;refine gX uR (xs:=l) (k:=0) (h1:=h0) λ_ _ p (_:Unit) hp=>?_;have hhd:l.headD (0,0)=p:=by
  cases l with
  |nil=>cases hp
  |cons a l=>cases hp;rfl
 refine go ?_;intro b3;refine go ?_;refine dL (λi:Nat=>l.length - i) (λi=>[(11,iV (i:Int))]) (λi=>[pt b3 (.cells [iV ((l.take i).foldl xN p).1,iV ((l.take i).foldl xN p).2])]) (λ_=>[]) (λi=>i<=l.length) 0 (bI _) (hk:=tc) (body:=?_);intro i hi;refine aK ?_ ?_<;>intro h2
 .refine gX uR (xs:=l) λ_ _ q (_:Unit) hq=>?_;refine go ?_;intro b5;refine go ?_;refine(dx rfl rfl (GH rfl rfl)).h ?_;refine go ?_;refine(dx rfl rfl (GH rfl rfl)).h ?_;refine go ?_;have e:(l.take (i+1)).foldl xN p=xN ((l.take i).foldl xN p) q:=by rw[fq hq,vJ];rfl
  rw[show min ((l.take i).foldl xN p).1 q.1=((l.take (i+1)).foldl xN p).1 by rw[e];rfl,show min ((l.take i).foldl xN p).2 q.2=((l.take (i+1)).foldl xN p).2 by rw[e];rfl];exact fR
 obtain rfl:i=l.length:=s6
 refine go ?_;exact ou () (hv:=by unfold oV;rw[hhd,dK];rfl) (hp:=trivial)
def wK(p:Int×Int):Prop:= -2000<=p.1/\p.1<=2000/\ -2000<=p.2/\p.2<=2000
def rE.c(h:rE p):wK p:=by unfold rE at h;unfold wK;omega
def ad8(h:∀p∈l,wK p):wK (oV l):=by
 have key:∀(l:ae (Int×Int)) (c:Int×Int),(∀p∈l,wK p)->wK c->wK (l.foldl xN c):=by
  intro l;induction l with
  |nil=>intro c _ h;exact h
  |cons x l ih=>
   intro c hl hc;rw[vI];refine ih _ (λp hp=>hl p (fP _ hp)) ?_;have:=hl x (eX ..);unfold wK at *;unfold xN;dsimp only;omega
 refine key l _ h ?_;cases l with
 |nil=>unfold wK;decide
 |cons a l=>exact h a (eX ..)
def asa:∃fs:Array Field,prog.underlying 344=some (.struct fs)/\GN prog fs.toList 0 [true,true]=true:=by
 refine⟨prog.fieldsOf 344,s8,s8⟩
def ad9:rY prog 344 jl where
 EF a:=by
  show uu prog 344 (.agg ⟨[iV a.1,iV a.2]⟩)=true
  kernel_rfl
 find a aC es h:=by
  obtain⟨fs,hu,hrow⟩:=asa;refine Tw hu (λa b=>rfl) (λa b=>?_) a aC es h;have:=ZM (P:=prog) (d:=9998) (t:=344) (xs:=[iV a.1,iV a.2]) (ys:=[iV b.1,iV b.2]) hu s8 (row_of hrow rfl rfl (λj=>by rw[gq]) (λj=>by rw[gq]));refine Eq.trans this ?_;congr 1;show(decide (a.1=b.1)&&(decide (a.2=b.2)&&true))=_;rw[Bool.and_true,<- Bool.decide_and];exact nZ.2 ⟨λh=>Prod.ext h.1 h.2,λh=>by rw[h];exact⟨rfl,rfl⟩⟩
 same a:=by
  show((⟨[Value.int .i64 a.1,iV a.2]⟩:Array ah).size==(⟨[Value.int .i64 a.1,iV a.2]⟩:Array ah).size&&(List.zip [Value.int .i64 a.1,iV a.2] [Value.int .i64 a.1,iV a.2]).all λ(x,y)=>Instr.sameBits 9999 x y)=true;simp[Instr.sameBits]
def IC(f:Int×Int->Int×Int)(v:ah):aI:=⟨λw=>∃fn cap Fx,v=.func fn ⟨[]⟩ ⟨cap⟩/\(∀p,lN p->aY prog fn [jl p] cap [] Fx (λ_:Unit=>jl (f p)) (λ_=>[]) (λ_=>[]) (λ_=>True))/\∀φ∈Fx,φ.p w,
 λa ⟨fn,cap,Fx,h1,h2,h3⟩=>⟨fn,cap,Fx,h1,h2,λφ hφ=>φ.mono a (h3 φ hφ)⟩⟩
def asb{fn:Fn}{cap:ae ah}(h:lN p):aY prog fn [jl p] cap [] [IC f (.func fn ⟨[]⟩ ⟨cap⟩)] (λ_:Unit=>jl (f p)) (λ_=>[]) (λ_=>[]) (λ_=>True):=λB w s=>by
 obtain⟨fn',cap',Fx,e,h1,h2⟩:=s.facts _ (bR.2 rfl);injection e with e1 e2 e3;injection e3 with e3;subst e1 e3;exact h1 p h B w ⟨s.agree,s.le,s.fF,s.own,h2⟩
variable{B:ae Nat}{w0:Wd}{kl:ae OA}{F:ae aI}
def ase{Q:IH->Prop}(h:∀fn cap,v=.func fn ⟨[]⟩ ⟨cap⟩->R Q B w0 kl F)(hf:IC f v∈F:=by exact iN):R Q B w0 kl F:=λw s=>by
 obtain⟨fn,cap,Fx,e,_⟩:=s.facts _ hf;exact h fn cap e w s
def Dz:Enc (Int×Int->Int×Int):=⟨1,ah,λ_ v=>[v],λf v=>[IC f v],λ_ _=>rfl⟩
abbrev BD(n:gy):ah:=.func (.func n) ⟨[]⟩ ⟨[]⟩
def sqV:ae ah:=[BD 340,BD 341,BD 342,BD 343,BD 344,BD 345,BD 346,BD 347]
def DC{n:gy}(h:∀p,lN p->dO prog n [jl p] [] (jl (f p)))(w:Wd):(IC f (BD n)).p w:=⟨.func n,[],[],rfl,h,λφ hφ=>by cases hφ⟩
def asf(h:Dy[k]? =some f):∃v,sqV[k]? =some v/\∀w,(IC f v).p w:=by
 unfold Dy at h;match k,h with
 |0,h=>injection h with h;subst h;exact⟨_,rfl,DC λp hp=>arY⟩
 |1,h=>injection h with h;subst h;exact⟨_,rfl,DC λp hp=>ar0 hp⟩
 |2,h=>injection h with h;subst h;exact⟨_,rfl,DC λp hp=>ar2 hp⟩
 |3,h=>injection h with h;subst h;exact⟨_,rfl,DC λp hp=>ar3 hp⟩
 |4,h=>injection h with h;subst h;exact⟨_,rfl,DC λp hp=>arZ⟩
 |5,h=>injection h with h;subst h;exact⟨_,rfl,DC λp hp=>ar4 hp⟩
 |6,h=>injection h with h;subst h;exact⟨_,rfl,DC λp hp=>ar5 hp⟩
 |7,h=>injection h with h;subst h;exact⟨_,rfl,DC λp hp=>ar6 hp⟩
 |k+8,h=>cases h
def ash:qV (pt b (.cells sqV)) [ay Dz (.slice (some ⟨b,0,some 0⟩) 8 8) Dy]:=by
 intro w w' S ⟨h1,h2⟩ hle hh hz g hg;rw[bR.1 hg];refine .inr ⟨b,0,0,8,_,⟨rfl,tg,.inl rfl⟩,⟨hz b wj,.inl ud⟩,λk f hk=>?_⟩;obtain⟨v,hv,hc⟩:=asf hk;refine⟨v,λj u hj=>?_,λφ hφ=>by rw[bR.1 hφ];exact hc w'⟩;match j,hj with
 |0,hj=>
  have hj:some v=some u:=hj;rw[show 0+k*Dz.n+0=k by show 0+k*1+0=k;omega,hv,hj]
 |j+1,hj=>cases hj
def asi:aY prog (.func 307) [iV s] [] [] [] (λv:ah=>v) (λ_=>[]) (λv=>[ay Dz v (lm s)]) (λ_=>True):=by
 refine gB 307 λB w0=>?_;refine aK ?_ ?_<;>intro h1
 .refine go ?_;intro b3;refine go ?_;have hm:lm s=Dy:=by unfold lm;rw[if_pos h1]
  rw[hm];refine(dx (v:=.slice (some ⟨b3,0,some 0⟩) 8 8) rfl rfl (λh=>rfl)).h ?_;refine mI (ash (b:=b3)) (hk:=B9) (h:=?_);refine go ?_;exact gQ (.slice (some ⟨b3,0,some 0⟩) 8 8) trivial
 have hm:lm s=(List.range 12).map wJ:=by unfold lm;rw[if_neg h1]
 refine go ?_;refine kv Dz ?_;refine dL (λy:Nat×ah=>12 - y.1) (λy=>[(12,iV (y.1:Int)),(4,y.2)]) (λy=>[ap Dz y.2 ((List.range y.1).map wJ)]) (λ_=>[]) (λy=>y.1<=12) (0,.slice none 0 0) (bI _) (hk:=tc) (body:=?_);rintro⟨k,v⟩ hk;dsimp only at hk⊢;refine aK ?_ ?_<;>intro h2
 .refine go ?_;intro b5;refine go ?_;intro b17;refine gP b5 ?_;refine fA (IC (wJ k) (.func (.func 348) ⟨[]⟩ ⟨[ptr' b5]⟩)) (λw hw=>⟨_,_,[aX b5 0 [iV (k:Int)]],rfl,λp hp=>ar7 s6 hp,λφ hφ=>by rw[bR.1 hφ];exact hw _ (eX ..)⟩) ?_;refine jy Dz (v:=v) (xs:=(List.range k).map wJ) (wJ k) (.func (.func 348) ⟨[]⟩ ⟨[ptr' b5]⟩) (cs:=[.func (.func 348) ⟨[]⟩ ⟨[ptr' b5]⟩]) (hm:=by rw[bi,o8];omega) (next:=λv2=>?_);refine go ?_;rw[bi,o8,show(List.range k).map wJ++[wJ k]=(List.range (k+1)).map wJ by rw[BX,bZ];rfl];exact aW (k+1,.slice v2 (k+1) (k+1)) (by show 12 - (k+1)<12 - k;omega) (by show k+1<=12;omega)
 obtain rfl:k=12:=s6
 rw[hm];refine gZ ja ?_;exact sg
def DD(l:ae (Int×Int)):ae ah:=dP uR (l.map λp=>(p,()))
def aeb(n:Nat):zeros [iV 0,iV 0] n=DD (List.replicate n (0,0)):=by
 induction n with
 |zero=>rfl
 |succ n ih=>
  show mq [iV 0,iV 0] (zeros [iV 0,iV 0] n)=_;rw[ih];rfl
def ug(l:ae (Int×Int))(n:Nat):ae (Int×Int):=l++List.replicate (n - l.length) (0,0)
variable{n:Nat}
def aec(h:l.length<=n):(ug l n).length=n:=by unfold ug;rw[fu,zg];omega
def aed{x:Int×Int}(h:l.length<n):(ug l n).set l.length x=ug (l++[x]) n:=by
 unfold ug;rw[DU _ _ (bG _),um,show n - l.length=(n - (l++[x]).length)+1 by rw[fu,DZ];omega,wR,fo];rfl
def aee(h:l.length=n):ug l n=l:=by unfold ug;rw[h,um];exact jo l
def asj{x:Int×Int}:DD (l.set k x)=dP uR ((l.map λp=>(p,())).set k (x,())):=by unfold DD;rw[qo];rfl
variable{y:aB}{K:KO}{ds:ae Tmp}{rest:ae bV}{D:ae Deferred}{pm:az FrameMode}{ro:az Nat}
def aef{kl':ae OA}{l:qr}{g:az (Tmp×Bool)}{L:ae (Int×Int)}{o:Nat}(q:Int×Int)(hlt:k<L.length)(ho:o=k*2)
 (next:R (λh=>aO prog ds rest (act n l D pm ro) h K) B w0 (pt b (.cells (DD (L.set k q)))::kl') F)
 (hx:ev l x=.pointer (some ⟨b,o,none⟩):=by rfl) (hy:ev l y=jl q:=by rfl) (hk:aD (pt b (.cells (DD L))) kl kl':=by exact dG) (hg:bJ l g=true:=by rfl):
 R (λh=>aO prog ds (⟨⟨none,g,.store 2 x y⟩,[]⟩::rest) (act n l D pm ro) h K) B w0 kl F:=by
 rw[asj]at next
 exact aao uR (aF:=L.map λp=>(p,())) (k:=k) (o:=o) (m:=2) (q,()) (by rw[bi];exact hlt) ho next hx hy hk rfl hg
def aeg(h:l.length=n):qV (pt b (.cells (DD l))) [ay uR (.slice (some ⟨b,0,some 0⟩) n n) l]:=by
 subst h;intro w w' S ⟨h1,h2⟩ hle hh hz g hg;rw[bR.1 hg];refine .inr ⟨b,0,0,_,_,⟨rfl,bG _,.inl rfl⟩,⟨hz b wj,.inl ud⟩,λk x hk=>⟨(),λj u hj=>?_,λf hf=>by cases hf⟩⟩;rw[gq];exact yC (p:=(x,())) (by rw[eF,hk];rfl) hj
variable{d bytes:Nat}
def asl{l:qr}{g:az (Tmp×Bool)}{e:aM}{size:Nat}{zero:ae ah}(m:Nat)(hm:m*bytes<=1073741824/\m*size<=1073741824/\m<=1073741824)
 (next:∀b,R (λh=>aO prog ds rest (act n ((d,.slice (some ⟨b,0,some 0⟩) 0 m)::l) D pm ro) h K) B w0 (pt b (.cells (zeros zero m))::kl) F)
 (hx:ev l x=iV (Int.ofNat 0):=by rfl) (hy:ev l y=iV (m:Int):=by rfl) (hn:Nat.blt d n=true:=by rfl) (hg:bJ l g=true:=by rfl):
 R (λh=>aO prog ds (⟨⟨some d,g,.xS e size bytes zero x y⟩,[]⟩::rest) (act n l D pm ro) h K) B w0 kl F:=λw s=>by
 have hle:∀{a b:Nat},a<=b->Nat.ble a b=true:=λh=>by rw[vH];exact h
 refine mG hn hg (h':=w.h.new (.cells (zeros zero m))) (v:=.slice (some ⟨w.h.next,0,some 0⟩) 0 m) ?_ (next w.h.next (w.new _) (s.new _));simp only[aR.run,aR.alloc,hx,hy];show uw (cond (Nat.ble 0 m&&Nat.ble (Nat.mul m bytes) small&&Nat.ble (Nat.mul m size) small&&Nat.ble m small) _ none) w.h=_;rw[hle (bI m),hle (show Nat.mul m bytes<=small from hm.1),hle (show Nat.mul m size<=small from hm.2.1),hle (show m<=small from hm.2.2)];rfl
def asn{k1 k2:ae OA}{l:qr}{g:az (Tmp×Bool)}{e:aM}{b' m cap:Nat}{f:az Nat}{s:aB}(v y:ah)(cs1 cs2:ae ah)(h1:cs1.length=m)(hc:m+1<=cap)
 (hm:(m+1)*bytes<=1073741824/\m+1<=1073741824)
 (next:R (λh=>aO prog ds rest (act n ((d,.slice (some ⟨b,0,f⟩) (m+1) cap)::l) D pm ro) h K) B w0 (pt b (.cells (cs1++v::cs2))::k2) F)
 (hs:ev l s=.slice (some ⟨b,0,f⟩) m cap:=by rfl) (hx:ev l x=.slice (some ⟨b',0,some 0⟩) 1 1:=by rfl) (hk:aD (pt b' (.cells [v])) kl k1:=by exact dG) (hk2:aD (pt b (.cells (cs1++y::cs2))) k1 k2:=by exact dG) (hn:Nat.blt d n=true:=by rfl) (hg:bJ l g=true:=by rfl):
 R (λh=>aO prog ds (⟨⟨some d,g,.append e 1 bytes s x⟩,[]⟩::rest) (act n l D pm ro) h K) B w0 kl F:=λw st=>by
 have hle:∀{a b:Nat},a<=b->Nat.ble a b=true:=λh=>by rw[vH];exact h
 have st1:=st.fB hk;have hb':w.h.get b'=some (.cells [v]):=st1.get.1;have st2:=st1.tail.fB hk2;have hlv:jV (cs1++y::cs2) cs1.length [v]=some (cs1++v::cs2):=by
  rw[OE s7];rfl
 refine mG hn hg (v:=.slice (some ⟨b,0,f⟩) (m+1) cap) (h':=w.h.set b (.cells (cs1++v::cs2))) ?_ (next ⟨w.h.set b _,w.z,λi hi=>w.oq i hi⟩ st2.write);have e1:w.h.storeAt b (Nat.add 0 (Nat.mul m 1)) [v]=some (w.h.set b (.cells (cs1++v::cs2))):=by
  unfold IH.storeAt;simp only[st2.get.1];rw[show Nat.add 0 (Nat.mul m 1)=cs1.length by rw[h1];show 0+m*1=m;omega,hlv]
 have r1:qp (.slice (some ⟨b',0,some 0⟩) 1 1)=some 1:=rfl;have r2:Aj 1 1 (.slice (some ⟨b',0,some 0⟩) 1 1) w.h=some [v]:=by
  show w.h.je b' 0 (1*1)=some [v];unfold IH.je;simp only[hb'];rfl
 simp only[aR.run,hx,hs,r1,r2,Cf];show cond (Nat.ble (Nat.mul (m+1) bytes) small&&Nat.ble (Nat.mul (m+1) 1) small&&Nat.ble (m+1) small) (cond (Nat.ble (m+1) cap) (match w.h.storeAt b (Nat.add 0 (Nat.mul m 1)) [v]with|some h=>some (Value.slice (some ⟨b,0,f⟩) (m+1) cap,h)|none=>none) _) none=_;rw[hle (show Nat.mul (m+1) bytes<=small from hm.1),hle (show Nat.mul (m+1) 1<=small by show(m+1)*1<=1073741824;omega),hle (show m+1<=small from hm.2),hle hc,e1];rfl
def xO(p c:Int×Int):Int×Int:=(p.1 - c.1,p.2 - c.2)
def iq(g:bY):ae (Int×Int):=g.cells.map (kX g)
def sI(Ab:ae (Int×Int))(low:Int×Int)(k:Nat):ae ((Int×Int)×ah):=((Ab.zipIdx).take k).foldl (λm q=>upd (xO q.1 low) (iV (q.2:Int)) m) []
def IE(m:ae ((Int×Int)×ah))(a:Int×Int):az Int:=match dM a m with
 |some (.int .i64 i)=>some i
 |_=>none
def vD(g:bY)(f:Int×Int->Int×Int):az (ae Int):=
 let to:=(iq g).map f
 let l:=to.filterMap λp=>IE (sI (iq g) (oV (iq g)) g.cells.length) (xO p (oV to))
 if l.length=to.length then some l else none
def vF(g:bY):ae (ae Int):=(lm g.shape).filterMap (vD g)
variable{low:Int×Int}{Ab:ae (Int×Int)}
def aso:∀k,∀p∈sI Ab low k,∃i:Nat,p.2=iV (i:Int):=by
 intro k;unfold sI;have key:∀(l:ae ((Int×Int)×Nat)) (m:ae ((Int×Int)×ah)),(∀p∈m,∃i:Nat,p.2=iV (i:Int))->∀p∈l.foldl (λm q=>upd (xO q.1 low) (iV (q.2:Int)) m) m,∃i:Nat,p.2=iV (i:Int):=by
  intro l;induction l with
  |nil=>intro m h;exact h
  |cons q l ih=>
   intro m h;rw[vI];refine ih _ λp hp=>?_;have hu:∀(m:ae ((Int×Int)×ah)),(∀p∈m,∃i:Nat,p.2=iV (i:Int))->∀p∈upd (xO q.1 low) (iV (q.2:Int)) m,∃i:Nat,p.2=iV (i:Int):=by
    intro m;induction m with
    |nil=>intro _ p hp;rw[bR.1 hp];exact⟨_,rfl⟩
    |cons c m ihm=>
     intro h p hp;obtain⟨c1,c2⟩:=c;unfold upd at hp;split at hp
     .rcases dm.1 hp with rfl|hp
      .exact⟨_,rfl⟩
      .exact h p (fP _ hp)
     .rcases dm.1 hp with rfl|hp
      .exact h _ (eX ..)
      .exact ihm (λp hp=>h p (fP _ hp)) p hp
   exact hu m h p hp
 exact key _ [] (λp hp=>by cases hp)
variable{a:Int×Int}
def asr{m:ae ((Int×Int)×ah)}(h:dM a m=some v):∃b,(b,v)∈m:=by
 induction m with
 |nil=>cases h
 |cons c m ih=>
  obtain⟨c1,c2⟩:=c;unfold dM at h;split at h
  .cases h;exact⟨_,eX ..⟩
  .obtain⟨b,hb⟩:=ih h;exact⟨b,fP _ hb⟩
def ass:(∃i:Nat,IE (sI Ab low k) a=some (i:Int)/\kw true (iV 0) a (sI Ab low k)=.tuple #[iV (i:Int),.bool true])\/(IE (sI Ab low k) a=none/\kw true (iV 0) a (sI Ab low k)=.tuple #[iV 0,.bool false]):=by
 unfold IE kw;cases h:dM a (sI Ab low k)with
 |none=>exact .inr ⟨rfl,rfl⟩
 |some v=>
  left;obtain⟨b,hb⟩:=asr h;obtain⟨i,hi⟩:=aso k _ hb;dsimp only at hi;subst hi;exact⟨i,rfl,rfl⟩
def aeh{α:Type}{a b c:ae α}(h:aJ a b c):∀k:ae α,aJ (k++a) (k++b) c
 |[]=>h
 |x::k=>.cons .here (aeh h k)
def asu{bg:Nat}(hg:ig g):GQ prog (λy:ah×ae Int=>[y.1]) (λy=>[ay aj y.1 y.2]) (.func 304) [] [ptr' bg] [aX bg 0 (oG g vh vc),ay aj vc g.cells] (λxs=>xs.map (·.2)=vF g):=by
 intro S inv ok step s0 oM y1 y2 F' h0 hok hy;dsimp only[List.cons_append,List.nil_append];have hcl:g.cells.length<=256:=hg.len;have hcp:0<g.cells.length:=aa3 hg;refine gB 304 λB w0=>?_;refine gF aj vc g.cells λac cc ec=>?_;subst ec;refine go ?_;refine qA g.cells.length ⟨s6,s6,s6⟩ λbm=>?_;rw[aeb];refine go ?_;refine dL (λi=>g.cells.length - i) (λi:Nat=>[(28,iV (i:Int))]) (λi=>[pt bm (.cells (DD (ug ((iq g).take i) g.cells.length)))]) (λ_=>[]) (λi=>i<=g.cells.length) 0 (bI _) (hk:=tc) (body:=?_);intro i hi;refine aK ?_ ?_<;>intro h1
 .refine go ?_;intro _ _ x hx;refine gC (ar9 (g:=g) (vh:=vh) (vc:=.slice ac g.cells.length cc) (x:=x) hg (aV hx)) λ_ _=>?_;refine go ?_;have hfi:((iq g).take i).length=i:=by unfold iq;rw[gW,bi];omega
  have hfx:(iq g)[i]? =some (kX g x):=by unfold iq;rw[eF,hx];rfl
  refine aef (L:=ug ((iq g).take i) g.cells.length) (k:=i) (o:=0+i*2) (kX g x) (by rw[aec s6];omega) s6 ?_;have hst:(ug ((iq g).take i) g.cells.length).set i (kX g x)=ug ((iq g).take (i+1)) g.cells.length:=by
   have:=aed (l:=(iq g).take i) (n:=g.cells.length) (x:=kX g x) s6;rw[hfi]at this;rw[this,fq hfx]
  rw[hst];refine go ?_;exact fR
 obtain rfl:i=g.cells.length:=s6
 have hfl:(iq g).length=g.cells.length:=by unfold iq;rw[bi]
 rw[Ag s6,aee hfl];refine gZ (aeg hfl) ?_;generalize(some (⟨bm,0,some 0⟩:Addr))=am;refine gC (ad7 (l:=iq g) s6 s6) λ_ _=>?_;refine go ?_;intro b6;refine go ?_;have hsb:∀p∈iq g,lN p:=λp hp=>by
  obtain⟨x,hx,rfl⟩:=cO.1 hp;exact ar8 hg hx
 have hlow:=ad8 (l:=iq g) (λp hp=>(hsb p hp).q.c);unfold wK at hlow;refine yB jl (λb7=>?_);refine go ?_;refine dL (λi=>g.cells.length - i) (λi:Nat=>[(45,iV (i:Int))]) (λi=>[ic jl b7 (sI (iq g) (oV (iq g)) i)]) (λ_=>[]) (λi=>i<=g.cells.length) 0 (bI _) (hk:=tc) (body:=?_);intro i hi;refine aK ?_ ?_<;>intro h1
 .refine gX uR (xs:=iq g) λ_ _ p (_:Unit) hp=>?_;have hpb:=(hsb p (aV hp))
  unfold lN at hpb;refine go ?_;intro b9;refine go ?_;refine vX ad9 (xO p (oV (iq g))) ?_ (ha:=rfl);have hz:(iq g).zipIdx[i]? =some (p,i):=by rw[List.getElem?_zipIdx,hp];simp
  have hat:upd (xO p (oV (iq g))) (iV (i:Int)) (sI (iq g) (oV (iq g)) i)=sI (iq g) (oV (iq g)) (i+1):=by
   unfold sI;rw[fq hz,vJ];rfl
  rw[hat];refine go ?_;exact fR
 obtain rfl:i=g.cells.length:=s6
 refine gZ EH ?_;refine gC (asi (s:=g.shape)) λvm _=>?_;refine gF Dz vm (lm g.shape) λamp cmp emp=>?_;subst emp;have hml:(lm g.shape).length<=12:=by unfold lm;split<;>simp[Dy]
 refine go ?_;refine dL (λy:Nat×ae (ah×ae Int)×S=>(lm g.shape).length - y.1) (λy=>[(68,iV (y.1:Int))]) (λy=>inv y.2.2) (λ_=>[]) (λy=>y.1<=(lm g.shape).length/\ok y.2.1 y.2.2/\y.2.1.map (·.2)=((lm g.shape).take y.1).filterMap (vD g)/\∀rest,cz step s0 (y.2.1++rest)=cz step y.2.2 rest) (0,[],s0) ⟨bI _,h0,rfl,λ_=>rfl⟩ (body:=?_);rintro⟨j,bS,dN⟩ ⟨hj,hos,iW,hrun⟩;dsimp only at hj hos iW hrun⊢;refine aK ?_ ?_<;>intro h1
 rotate_left
 .have hr2:=hrun [];rw[jo]at hr2;refine go ?_;exact gQ bS (by show bS.map (·.2)=vF g;rw[iW,Ag s6];rfl) (hk:=by rw[hr2];exact aJ.self _ _)
 refine gX Dz (xs:=lm g.shape) λ_ _ f (vf:ah) hf=>?_;have hfm:=aV hf;have hdr:(lm g.shape).drop j=f::(lm g.shape).drop (j+1):=by
  obtain⟨h2,h3⟩:=bz.1 hf;rw[<- h3];exact mX h2
 refine ase (f:=f) (v:=vf) (λfn cap ef=>?_);subst ef;refine go ?_;refine qA g.cells.length ⟨s6,s6,s6⟩ λbt=>?_;rw[aeb];refine go ?_;have htl:((iq g).map f).length=g.cells.length:=by rw[bi,hfl]
 refine dL (λi=>g.cells.length - i) (λi:Nat=>[(77,iV (i:Int))]) (λi=>[pt bt (.cells (DD (ug (((iq g).map f).take i) g.cells.length)))]) (λ_=>[]) (λi=>i<=g.cells.length) 0 (bI _) (hk:=tc) (body:=?_);intro i hi;refine aK ?_ ?_<;>intro h2
 .refine gX uR (xs:=iq g) λ_ _ p (_:Unit) hp=>?_;refine go ?_;intro b14;refine gC (asb (f:=f) (fn:=fn) (cap:=cap) (p:=p) (hsb p (aV hp))) λ_ _=>?_;refine go ?_;have hfi:(((iq g).map f).take i).length=i:=by rw[gW];omega
  have hfx:((iq g).map f)[i]? =some (f p):=by rw[eF,hp];rfl
  refine aef (L:=ug (((iq g).map f).take i) g.cells.length) (k:=i) (o:=0+i*2) (f p) (by rw[aec s6];omega) s6 ?_;have hst:(ug (((iq g).map f).take i) g.cells.length).set i (f p)=ug (((iq g).map f).take (i+1)) g.cells.length:=by
   have:=aed (l:=((iq g).map f).take i) (n:=g.cells.length) (x:=f p) s6;rw[hfi]at this;rw[this,fq hfx]
  rw[hst];refine go ?_;exact fR
 obtain rfl:i=g.cells.length:=s6
 rw[Ag s6,aee htl];refine gZ (aeg htl) ?_;generalize(some (⟨bt,0,some 0⟩:Addr))=at_;refine go ?_;have htb:∀p∈(iq g).map f,wK p:=λp hp=>by
  obtain⟨q,hq,rfl⟩:=cO.1 hp;exact(arX hfm (hsb q hq)).c
 have hct:=ad8 htb;unfold wK at hct;refine fH (ad7 (l:=(iq g).map f) s6 s6) (next:=λ_ _=>?_);refine go ?_;intro b15;refine go ?_;refine asl g.cells.length ⟨s6,s6,s6⟩ λbl=>?_;rw[Dq];refine go ?_;generalize hto:(iq g).map f=to at *;generalize hφ:(λp=>IE (sI (iq g) (oV (iq g)) g.cells.length) (xO p (oV to)))=φ;have hfe:vD g f=if(to.filterMap φ).length=to.length then some (to.filterMap φ)else none:=by
  unfold vD;dsimp only;rw[hto,hφ]
 refine dL (λi=>g.cells.length - i) (λi:Nat=>[(96,iV (i:Int)),(16,.slice (some ⟨bl,0,some 0⟩) ((to.take i).filterMap φ).length g.cells.length)]) (λi=>[pt bl (.cells ((iP ((to.take i).filterMap φ) g.cells.length).map iV))]) (λ_=>[]) (λi=>i<=g.cells.length) 0 (bI _) (hk:=tc) (body:=?_);intro i hi;have hle:((to.take i).filterMap φ).length<=i:=lZ (Mg ..) tR;refine aK ?_ ?_<;>intro h3
 .refine gX uR (xs:=to) λ_ _ p (_:Unit) hp=>?_;have hpb:=htb p (aV hp);unfold wK at hpb;refine go ?_;intro b18;refine go ?_;refine Tk ad9 (xO p (oV to)) ?_ (ha:=rfl);have hφp:φ p=IE (sI (iq g) (oV (iq g)) g.cells.length) (xO p (oV to)):=by rw[<- hφ]
  have htk:(to.take (i+1)).filterMap φ=(to.take i).filterMap φ++(match φ p with|some x=>[x]|none=>[]):=by
   rw[fq hp,Cb];congr 1;rw[Af];cases φ p<;>rfl
  rcases ass (Ab:=iq g) (low:=oV (iq g)) (a:=xO p (oV to)) (k:=g.cells.length)with⟨x,e1,e2⟩|⟨e1,e2⟩
  .rw[<- hφp]at e1;rw[e1]at htk;rw[show kw true (iV 0) (xO p (oV to)) (sI (iq g) (oV (iq g)) g.cells.length)=.tuple #[iV (x:Int),.bool true]from e2];refine go ?_;intro b19;have asv:(iP ((to.take i).filterMap φ) g.cells.length).map (Value.int .i64)=((to.take i).filterMap φ).map iV++iV 0::(List.replicate (g.cells.length - ((to.take i).filterMap φ).length - 1) 0).map iV:=by
    unfold iP;rw[show g.cells.length - ((to.take i).filterMap φ).length=(g.cells.length - ((to.take i).filterMap φ).length - 1)+1 by omega,wR,bZ,iX];rfl
   rw[asv];refine asn (b:=bl) (b':=b19) (m:=((to.take i).filterMap φ).length) (cap:=g.cells.length) (f:=some 0) (iV (x:Int)) (iV 0) (((to.take i).filterMap φ).map iV) ((List.replicate (g.cells.length - ((to.take i).filterMap φ).length - 1) 0).map iV) (by rw[bi]) s6 ⟨s6,s6⟩ ?_;have asw:((to.take i).filterMap φ).map (Value.int .i64)++iV (x:Int)::(List.replicate (g.cells.length - ((to.take i).filterMap φ).length - 1) 0).map iV=(iP ((to.take (i+1)).filterMap φ) g.cells.length).map iV:=by
    rw[htk];unfold iP;rw[bZ,bZ,fo,fu,DZ,Nat.sub_sub];rfl
   have hpl:((to.take i).filterMap φ).length+1=((to.take (i+1)).filterMap φ).length:=by rw[htk,fu];rfl
   rw[asw,hpl];refine go ?_;exact fR
  .rw[<- hφp]at e1;rw[e1]at htk;rw[show kw true (iV 0) (xO p (oV to)) (sI (iq g) (oV (iq g)) g.cells.length)=.tuple #[iV 0,.bool false]from e2];refine go ?_;rw[jo]at htk;rw[<- htk];exact fR
 obtain rfl:i=g.cells.length:=s6
 rw[Ag s6]at hle⊢;generalize hls:to.filterMap φ=ls at *;refine go ?_;by_cases hL:((ls.length:Int)=(g.cells.length:Int))
 .rw[eB hL];have hln:ls.length=g.cells.length:=by omega
  rw[Fa hln];refine gZ (uJ (b:=bl) (f:=0) (c:=g.cells.length) (xs:=ls) (hc:=s6)) ?_;have Qv:vD g f=some ls:=by rw[hfe,if_pos s6]
  generalize Gh:((.slice (some ⟨bl,0,some 0⟩) ls.length g.cells.length,ls):ah×ae Int)=yy;have hX:(bS++yy::(((lm g.shape).drop (j+1)).filterMap (vD g)).map λq=>((.slice none 0 0:ah),q)).map (·.2)=vF g:=by
   have hy2:yy.2=ls:=by rw[<- Gh]
   have e1:vF g=((lm g.shape).take j).filterMap (vD g)++((lm g.shape).drop j).filterMap (vD g):=by
    rw[<- Cb,l5];rfl
   rw[e1,hdr,Af,Qv,bZ,iW,iX,rO,hy2];congr 2;exact(BV _).symm▸rfl
  have fQ:=hy bS dN yy _ hos hX;dsimp only at fQ;rw[show yy.1=.slice (some ⟨bl,0,some 0⟩) ls.length g.cells.length by rw[<- Gh],show yy.2=ls by rw[<- Gh]]at fQ;rw[bQ,bP]at fQ;refine gC fQ λ_ _=>?_;cases hst:(step dN yy).2 with
  |true=>
   have hs1:step dN yy=((step dN yy).1,true):=Prod.ext rfl hst;refine go ?_;refine aW (j+1,bS++[yy],(step dN yy).1) Ek ⟨by show j+1<=_;omega,hok _ dN _ _ hos hX hst,?_,λrest=>?_⟩ (hk:=aeh (.cons (.there .here) .nil) _)
   .show(bS++[yy]).map (·.2)=((lm g.shape).take (j+1)).filterMap (vD g);rw[fq hf,Cb,bZ,iW,Af,Qv,kg,show yy.2=ls by rw[<- Gh]];rfl
   .show cz step s0 (bS++[yy]++rest)=_;rw[fo,hrun];show cz step dN (yy::rest)=_;rw[cz,hs1]
  |false=>
   have hs1:step dN yy=((step dN yy).1,false):=Prod.ext rfl hst;have hr:=hrun (yy::(((lm g.shape).drop (j+1)).filterMap (vD g)).map λq=>((.slice none 0 0:ah),q));rw[cz,hs1]at hr;dsimp only at hr;refine go ?_;exact gQ (bS++yy::(((lm g.shape).drop (j+1)).filterMap (vD g)).map λq=>((.slice none 0 0:ah),q)) hX (hk:=Bs)
 .rw[dA hL];have Qv:vD g f=none:=by rw[hfe,if_neg s6]
  refine go ?_;refine aW (j+1,bS,dN) Ek ⟨by show j+1<=_;omega,hos,?_,hrun⟩;show bS.map (·.2)=((lm g.shape).take (j+1)).filterMap (vD g);rw[fq hf,Cb,iW,Af,Qv];exact(jo _).symm
def asx:aY prog (.func 243) [.agg ⟨oG g vh vc⟩] [] [] [] (λb:Nat=>.func (.func 304) #[] #[ptr' b]) (λ_=>[]) (λb=>[aX b 0 (oG g vh vc)]) (λ_=>True):=by
 refine gB 243 λB w0=>?_;refine go ?_;intro b1;refine gP b1 ?_;refine go ?_;exact gQ b1 trivial
