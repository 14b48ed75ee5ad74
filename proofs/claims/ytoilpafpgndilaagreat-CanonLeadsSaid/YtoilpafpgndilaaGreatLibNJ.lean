/- Part. -/
import Derived.Shelf.Spec.SlicesInsertGrow
import Derived.OwnWalk
import Derived.Test.YtoilpafpgndilaaGreatLibMJ
set_option linter.all false
set_option maxRecDepth 10000
set_option maxHeartbeats 4000000
namespace Go.Proofs.YtoilpafpgndilaaGreat
open Tryz (prog)
open Go.Proofs Go.Shelf Go.RowKit Go.Lib
def acC:(prog.info? 29).map (λi=>(i.zero,i.size,i.bytes))=some (some (.slice none 0 0),1,24):=s8
def UR:prog.follows .mixedOrders=true:=s8
set_option maxHeartbeats 4000000 in
set_option maxRecDepth 100000 in
def aoY(b off n c i vb vo:Nat)(cs:ae ah)(v:ah)(w:World)(hi:i<n)(hroom:n+1<=c)(hbig:(n+1)*24<=140737488355328)(hvb:vb≠b)(hcl:cs.length=n)
 (hcs:∀j u,cs[j]? =some u->w.cell? ⟨b,off+j,none⟩=some u) (hsp:∀j,j<n+1->(w.cell? ⟨b,off+j,none⟩).isSome=true) (hfz:∀j,j<n+1->w.frozen? ⟨b,off+j,none⟩=false)
 (hv:w.cell? ⟨vb,vo,none⟩=some v) (h1c:∀u∈cs,u.oneCell'=true) (h1v:v.oneCell'=true)
 (tA tB:aD) (kA kB:Nat) (hsa:w.shape? vb=some (tA,kA)) (hsb:w.shape? b=some (tB,kB)) (hkB:kB≠0) (hfa:w.frozen? ⟨vb,vo,none⟩=false) (hfe:w.frozen? ⟨vb,kA,none⟩=false):
 Calls prog 231 #[.slice (some ⟨b,off,none⟩) n c,(Value.int .i64) i,.slice (some ⟨vb,vo,none⟩) 1 1] w λe w'=>
  e=.returned (.slice (some ⟨b,off,none⟩) (n+1) c)/\w'=(w.drew.setCells b (off+(i+1)) (cs.drop i)).setCells b (off+i) [v]:=by
 have u0:=run_underlying Tryz.underlying0;have u3:=run_underlying Tryz.underlying3;have u4:=run_underlying Tryz.underlying4;have u22:=run_underlying Tryz.underlying29;have u31:=run_underlying Tryz.underlying38;have a0:=Tryz.isAgg0;have z0:=Tryz.sizeOf0;have v0:=Tryz.zeroValue0;have a3:=Tryz.isAgg3;have z3:=Tryz.sizeOf3;have v3:=Tryz.zeroValue3;have a4:=Tryz.isAgg4;have z4:=Tryz.sizeOf4;have v4:=Tryz.zeroValue4;have a22:=Tryz.isAgg29;have z22:=Tryz.sizeOf29;have v22:=Tryz.zeroValue29;have a31:=Tryz.isAgg38;have z31:=Tryz.sizeOf38;have v31:=Tryz.zeroValue38;have hz2:¬((i:Int)=(n:Int)):=s6
 have hsz:(prog.info? 29).map (·.size)=some 1:=by
  obtain⟨i0,hi0,h0,h1,h2⟩:=info_parts acC;rw[hi0];simp[h1]
 have hov:∀lb cb,(callFunc 322 #[.slice (some ⟨vb,vo,none⟩) 1 1,.slice (some ⟨b,off+(i+1),none⟩) lb cb]).run prog w=.ok (.value (.bool false)) w:=λlb cb=>by
  rw[run_callFunc_extern Tryz.func322 s8 s8 s8 (e:=Extern.SlicesOverlaps.overlaps #[38,38] #[4]) s8,
   Lib.run_overlaps_apart w 38 4 29 Tryz.underlying38 1 z22 ⟨vb,vo,none⟩ ⟨b,off+(i+1),none⟩ 1 1 lb cb hvb tA tB kA kB hsa hsb hkB hfa hfe]
  rfl
 have hdl:(cs.drop i).length=n - i:=by rw[lu,hcl]
 have mixed:=UR;have hw1:IntKind.i64.wrap ((i:Int)+1)=(i:Int)+1:=Cp
 have hb1:(0:Int)<=(i:Int)+1:=s6
 have hin:i<=n:=s6
 have htn:((i:Int)+1).toNat=i+1:=s6
 have hb2:¬(c=i+1):=s6
 have hb3:(i:Int)<=(n:Int)+1:=s6
 have hb4:¬(c=i):=s6
 have hcp1:∀ty dc sc,(Builtin.copy_ #[38,38] ty #[.slice (some ⟨b,off+(i+1),none⟩) (n - i) dc,.slice (some ⟨b,off+i,none⟩) (n+1 - i) sc]).run prog w.drew=.ok (goInt (cs.drop i).length) (w.drew.setCells b (off+(i+1)) (cs.drop i)):=λty dc sc=>
  run_copy_cells w.drew _ _ ty 29 b (off+(i+1)) (n - i) dc ⟨b,off+i,none⟩ (n+1 - i) sc (cs.drop i) Tryz.underlying38 hsz Fi
   (λj u hj=>by rw[Addr.add_lit,l5];exact hcs (i+j) u (by rwa [jU]at hj))
   (λj hj=>by rw[l5];exact hsp _ s6) (λj hj=>by rw[l5];exact hfz _ s6) (λu hu=>h1c u (E9 hu))
 obtain⟨W1,hW1⟩:∃W1,W1=w.drew.setCells b (off+(i+1)) (cs.drop i):=⟨_,rfl⟩
 have hsp1:∀k,k<n+1->(W1.cell? ⟨b,off+k,none⟩).isSome=true:=λk hk=>by
  rw[hW1];exact isSome_setCells b _ _ _ (λj hj=>by rw[l5];exact hsp _ s6) _ (hsp k hk)
 have hcp2:∀(W:World),(∀x,W.cell? x=W1.cell? x)->(∀x,W.frozen? x=W1.frozen? x)->∀ty dc,(Builtin.copy_ #[38,38] ty #[.slice (some ⟨b,off+i,none⟩) (n+1 - i) dc,.slice (some ⟨vb,vo,none⟩) 1 1]).run prog W=.ok (goInt [v].length) (W.setCells b (off+i) [v]):=λW hWc hWf ty dc=>
  run_copy_cells W _ _ ty 29 b (off+i) (n+1 - i) dc ⟨vb,vo,none⟩ 1 1 [v] Tryz.underlying38 hsz Fk
   (λj u hj=>by
     match j,hj with
     |0,hj=>
      cases hj;rw[Addr.add_lit,hWc,hW1,BS b _ _ _ _ (λh _=>absurd h hvb)];exact hv
     |j+1,hj=>simp at hj)
   (λj hj=>by have hj:j<1:=hj;rw[hWc,l5];exact hsp1 _ s6) (λj hj=>by have hj:j<1:=hj;rw[hWf,hW1,KG,l5];exact hfz _ s6) (λu hu=>by rw[bA.1 hu];exact h1v)
 rw[<- hW1]at hcp1
 go_enter Tryz.func231,Tryz.ntmps231
 go_wp2_with (simp only[hov])
 go_region_law_o (refine step_copy_runI rfl _ _ 38 38 rfl _ _ AE AE (hcp1 _ _ _) ?_)
 go_wp2_with (at_builtin;refine wpList_copy_runI _ rfl _ _ 38 38 rfl _ _ rfl rfl (hcp2 _ (λ_=>rfl) (λ_=>rfl) _ _) ?_)
 go_ret
 first|exact⟨rfl,rfl⟩|exact⟨rfl,by rw[hW1]⟩
set_option maxHeartbeats 4000000 in
set_option maxRecDepth 100000 in
def aoZ(b off n c i vb vo:Nat)(cs:ae ah)(v:ah)(w:World)(hi:i<n)(hnc:n<=c)(hroom:c<n+1)(hbig:(n+1)*24<=140737488355328)(hcl:cs.length=n)
 (hcs:∀j u,cs[j]? =some u->w.cell? ⟨b,off+j,none⟩=some u) (hv:w.cell? ⟨vb,vo,none⟩=some v) (h1c:∀u∈cs,u.oneCell'=true) (h1v:v.oneCell'=true):
 Calls prog 231 #[.slice (some ⟨b,off,none⟩) n c,(Value.int .i64) i,.slice (some ⟨vb,vo,none⟩) 1 1] w λe w'=>
  e=.returned (.slice (some ⟨w.heap.size,0,none⟩) (n+1) (grownCap w (n+1) c 29))/\
  w'=(((w.alloc (.cells ((cs.take i).toArray++Builtin.zeroCells (Value.slice none 0 0).cells (n+1 - i)++Builtin.zeroCells (Value.slice none 0 0).cells (grownCap w (n+1) c 29 - (n+1))) 29)).drew.setCells w.heap.size i [v]).drew).setCells w.heap.size (i+1) (cs.drop i):=by
 have u0:=run_underlying Tryz.underlying0;have u3:=run_underlying Tryz.underlying3;have u4:=run_underlying Tryz.underlying4;have u22:=run_underlying Tryz.underlying29;have u31:=run_underlying Tryz.underlying38;have a0:=Tryz.isAgg0;have z0:=Tryz.sizeOf0;have v0:=Tryz.zeroValue0;have a3:=Tryz.isAgg3;have z3:=Tryz.sizeOf3;have v3:=Tryz.zeroValue3;have a4:=Tryz.isAgg4;have z4:=Tryz.sizeOf4;have v4:=Tryz.zeroValue4;have a22:=Tryz.isAgg29;have z22:=Tryz.sizeOf29;have v22:=Tryz.zeroValue29;have a31:=Tryz.isAgg38;have z31:=Tryz.sizeOf38;have v31:=Tryz.zeroValue38;have mixed:=UR;obtain⟨i0,hi0,hz0,hzs,hzb⟩:=info_parts acC;have hz2:¬((i:Int)=(n:Int)):=s6
 have hz3:(c:Int)<(n:Int)+1:=s6
 have hsz:(prog.info? 29).map (·.size)=some 1:=by rw[hi0];simp[hzs]
 have hbw:b<w.heap.size:=block_lt_of_cell (hcs 0 _ (bG s6));have hvw:vb<w.heap.size:=block_lt_of_cell hv;have hkk:(n:Int)+1 - (i:Int)=((n+1 - i:Nat):Int):=s6
 have hik:i+(n+1 - i)=n+1:=s6
 have hold:(Builtin.firstCells i0.size i (.slice (some ⟨b,off,none⟩) i c)).run prog w.drew=.ok (cs.take i).toArray w.drew:=by
  rw[hzs];exact run_firstCells_some w.drew 1 i ⟨b,off,none⟩ i c (cs.take i) tw (λj u hj=>by
   rw[Addr.add_lit];rw[rE]at hj;split at hj
   .exact hcs j u hj
   .cases hj)
 have hrz:∀ty,(Builtin.append_ #[38,3] ty #[.slice (some ⟨b,off,none⟩) i c,(Value.int .i64) ((n:Int)+1 - (i:Int))]).run prog w=
  .ok (.slice (some ⟨w.heap.size,0,none⟩) (n+1) (grownCap w (n+1) c 29)) (w.drew.alloc (.cells ((cs.take i).toArray++Builtin.zeroCells (Value.slice none 0 0).cells (n+1 - i)++Builtin.zeroCells (Value.slice none 0 0).cells (grownCap w (n+1) c 29 - (n+1))) 29)):=λty=>by
  have h:=Lib.run_append_grow_zeros w 38 3 ty 29 i0 _ .i64 .i64 Tryz.underlying38 Tryz.underlying3 hi0 hz0 (some ⟨b,off,none⟩) i c (cs.take i) hold (n+1 - i) s6 s6 s6 s6 (by rw[hzb];omega) (by rw[hzb,hik];exact growslice_fits hroom hbig);rw[hik]at h;rw[hkk];exact h
 obtain⟨G,hG⟩:∃G,G=grownCap w (n+1) c 29:=⟨_,rfl⟩
 obtain⟨ROW,hROW⟩:∃ROW:Array ah,ROW=(cs.take i).toArray++Builtin.zeroCells (Value.slice none 0 0).cells (n+1 - i)++Builtin.zeroCells (Value.slice none 0 0).cells (G - (n+1)):=⟨_,rfl⟩
 rw[<- hG]at hrz⊢;rw[<- hROW]at hrz⊢;have hRl:n+1<=ROW.size:=by
  rw[hROW];simp[Builtin.zeroCells,Value.cells];omega
 obtain⟨W1,hW1⟩:∃W1,W1=w.drew.alloc (.cells ROW 29):=⟨_,rfl⟩
 rw[<- hW1]at hrz;have hN:∀j,j<n+1->(W1.cell? ⟨w.heap.size,j,none⟩).isSome=true:=λj hj=>by
  rw[hW1,World.cell?_alloc_at (w:=w.drew) ROW _ w.heap.size j rfl,Pt s6];rfl
 have hNf:∀j,W1.frozen? ⟨w.heap.size,j,none⟩=false:=λj=>by rw[hW1];exact World.frozen?_alloc_at (w:=w.drew) ROW _ w.heap.size j rfl
 have hOb:∀j u,w.cell? ⟨b,j,none⟩=some u->W1.cell? ⟨b,j,none⟩=some u:=λj u h=>by rw[hW1,World.cell?_alloc_past (w:=w.drew) _ b j hbw];exact h
 have hOv:∀j u,w.cell? ⟨vb,j,none⟩=some u->W1.cell? ⟨vb,j,none⟩=some u:=λj u h=>by rw[hW1,World.cell?_alloc_past (w:=w.drew) _ vb j hvw];exact h
 have hcpA:∀(W:World),(∀x,W.cell? x=W1.cell? x)->(∀x,W.frozen? x=W1.frozen? x)->∀ty dc,(Builtin.copy_ #[38,38] ty #[.slice (some ⟨w.heap.size,i,none⟩) (n+1 - i) dc,.slice (some ⟨vb,vo,none⟩) 1 1]).run prog W=.ok (goInt [v].length) (W.setCells w.heap.size i [v]):=λW hWc hWf ty dc=>
  run_copy_cells W _ _ ty 29 w.heap.size i (n+1 - i) dc ⟨vb,vo,none⟩ 1 1 [v] Tryz.underlying38 hsz Fk
   (λj u hj=>by
     match j,hj with
     |0,hj=>
      cases hj;rw[Addr.add_lit,hWc];exact hOv _ _ hv
     |j+1,hj=>simp at hj)
   (λj hj=>by have hj:j<1:=hj;rw[hWc];exact hN _ s6) (λj hj=>by rw[hWf];exact hNf _) (λu hu=>by rw[bA.1 hu];exact h1v)
 have hGn:n+1<=G:=by rw[hG];exact grownCap_ge w _ _ _
 have hG63:G<=9223372036854775807:=by
  have:=grownCap_le_maxLen w (n+1) c 29 (by unfold maxLen;omega);rw[<- hG]at this;unfold maxLen at this;omega
 have hGi:¬(G=i):=s6
 have hGim:¬(G=i+1):=s6
 have hci:¬(c=i):=s6
 have hbN:b≠w.heap.size:=s6
 have hdl:(cs.drop i).length=n - i:=by rw[lu,hcl]
 have hcpB:∀(W:World),(∀x,W.cell? x=(W1.setCells w.heap.size i [v]).cell? x)->(∀x,W.frozen? x=(W1.setCells w.heap.size i [v]).frozen? x)->∀ty dc sc,(Builtin.copy_ #[38,38] ty #[.slice (some ⟨w.heap.size,i+1,none⟩) (n - i) dc,.slice (some ⟨b,off+i,none⟩) (n - i) sc]).run prog W=.ok (goInt (cs.drop i).length) (W.setCells w.heap.size (i+1) (cs.drop i)):=λW hWc hWf ty dc sc=>
  run_copy_cells W _ _ ty 29 w.heap.size (i+1) (n - i) dc ⟨b,off+i,none⟩ (n - i) sc (cs.drop i) Tryz.underlying38 hsz Fi
   (λj u hj=>by
     rw[Addr.add_lit,hWc,BS _ _ _ _ _ (λh _=>absurd h hbN),l5];exact hOb _ u (hcs (i+j) u (by rwa [jU]at hj)))
   (λj hj=>by rw[hWc];exact isSome_setCells _ _ _ _ (λt ht=>hN _ (by have ht:t<1:=ht;omega)) _ (hN _ s6))
   (λj hj=>by rw[hWf,KG];exact hNf _) (λu hu=>h1c u (E9 hu))
 subst hW1;have hE1:∀x,((w.alloc (.cells ROW 29)).drew).cell? x=(w.drew.alloc (.cells ROW 29)).cell? x:=λx=>rfl;have hE2:∀x,((w.alloc (.cells ROW 29)).drew).frozen? x=(w.drew.alloc (.cells ROW 29)).frozen? x:=λx=>rfl;have hF1:∀x,(((w.alloc (.cells ROW 29)).drew.setCells w.heap.size i [v]).drew).cell? x=((w.drew.alloc (.cells ROW 29)).setCells w.heap.size i [v]).cell? x:=λx=>rfl;have hF2:∀x,(((w.alloc (.cells ROW 29)).drew.setCells w.heap.size i [v]).drew).frozen? x=((w.drew.alloc (.cells ROW 29)).setCells w.heap.size i [v]).frozen? x:=λx=>rfl;have hw1:IntKind.i64.wrap ((i:Int)+1)=(i:Int)+1:=Cp
 have hb1:(0:Int)<=(i:Int)+1:=s6
 have hin:i<=n:=s6
 have htn:((i:Int)+1).toNat=i+1:=s6
 have hb3:(i:Int)<=(n:Int):=s6
 clear hkk hik hold hROW hG hRl
 go_enter Tryz.func231,Tryz.ntmps231
 go_wp2_with (first
  |(at_builtin;refine Lib.wpList_append_run _ rfl _ _ _ _ rfl _ _ rfl rfl _ _ (hrz _) ?_)
  |(at_builtin;refine wpList_copy_runI _ rfl _ _ 38 38 rfl _ _ rfl rfl (hcpA _ hE1 hE2 _ _) ?_)
  |(at_builtin;refine wpList_copy_runI _ rfl _ _ 38 38 rfl _ _ rfl rfl (hcpB _ (λ_=>rfl) (λ_=>rfl) _ _ _) ?_))
 go_region_law_o (refine step_copy_runI rfl _ _ 38 38 rfl (.slice (some ⟨w.heap.size,i+1,none⟩) (n - i) (G - (i+1))) (.slice (some ⟨b,off+i,none⟩) (n - i) (c - i)) AE AE (hcpB _ hF1 hF2 3 (G - (i+1)) (c - i)) ?_)
 go_wp2
 go_ret
 exact⟨rfl,rfl⟩
open Go.Ideal Kd
variable{x:ay}
def BF{ρ:ay->ah}{a:Int}(hx:ρ x=iV a)(h1: -2^63<a/\a<2^63):Pu prog ρ (.un .neg x) (iV (-a)):=λh=>by
 simp only[aK.run,hx];have hw:IntKind.i64.wrap (0 - a)= -a:=Cp
 have:lN prog (Op.unary .neg (iV a))=some (iV (-a)):=by
  unfold lN;have e:dK prog (Op.unary .neg (iV a))=some (iV (IntKind.i64.wrap (0 - a))):=rfl;rw[e,hw];rfl
 rw[this];rfl
def lm(p:Int×Int):Prop:= -1000<=p.1/\p.1<=1000/\ -1000<=p.2/\p.2<=1000
def ry(p:Int×Int):Prop:= -2000<=p.1/\p.1<=2000/\ -2000<=p.2/\p.2<=2000/\ -2000<=p.1+p.2/\p.1+p.2<=2000
variable{p:Int×Int}
def lm.q(h:lm p):ry p:=by unfold lm at h;unfold ry;omega
def OM(p:Int×Int):Int×Int:=(-p.2,p.1+p.2)
def ao0(h:ry p):ry (OM p):=by unfold ry at *;unfold OM;(try dsimp only);omega
def BG:Nat->Int×Int->Int×Int
 |0,p=>p
 |n+1,p=>OM (BG n p)
def OO{p:Int×Int}(h:ry p):∀n,ry (BG n p)
 |0=>h
 |n+1=>ao0 (OO h n)
def vX(k:Nat)(p:Int×Int):Int×Int:=BG (k%6) (if 6<=k then(p.2,p.1)else p)
def ao1(h:lm p)(k:Nat):ry (vX k p):=by
 refine OO ?_ _;unfold lm at h;split<;>(unfold ry;(try dsimp only);omega)
def Dk:ae (Int×Int->Int×Int):=[λp=>p,λp=>(-p.1,p.2),λp=>(p.1, -p.2),λp=>(-p.1, -p.2),λp=>(p.2,p.1),λp=>(-p.2,p.1),λp=>(p.2, -p.1),λp=>(-p.2, -p.1)]
def kR(s:Int):ae (Int×Int->Int×Int):=if s=1 then Dk else(List.range 12).map vX
variable{f:Int×Int->Int×Int}{s:Int}
def ao2(hf:f∈kR s){p:Int×Int}(h:lm p):ry (f p):=by
 unfold kR at hf;split at hf
 .unfold Dk at hf;unfold lm at h;simp only[bH,Ab,or_false]at hf;rcases hf with rfl|rfl|rfl|rfl|rfl|rfl|rfl|rfl<;>(unfold ry;(try dsimp only);omega)
 .obtain⟨k,_,rfl⟩:=bS.1 hf;exact ao1 h k
def acD(h:ry p):dZ prog 366 [jf p] [] (jf (OM p)):=by
 unfold ry at h;refine gB 366 λB w0=>?_;refine go ?_;intro b1 b2;refine go ?_;refine(cZ rfl rfl (BF (a:=p.2) rfl s6)).h ?_;exact eH
def ao3:dZ prog 357 [jf p] [] (jf p):=by
 refine gB 357 λB w0=>?_;refine go ?_;intro b1 b2;exact eH
def ao4:dZ prog 361 [jf p] [] (jf (p.2,p.1)):=by
 refine gB 361 λB w0=>?_;refine go ?_;intro b1 b2;exact eH
def ao5(h:lm p):dZ prog 358 [jf p] [] (jf (-p.1,p.2)):=by
 unfold lm at h;refine gB 358 λB w0=>?_;refine go ?_;intro b1 b2;refine go ?_;refine(cZ rfl rfl (BF (a:=p.1) rfl s6)).h ?_;exact eH
def ao6(h:lm p):dZ prog 359 [jf p] [] (jf (p.1, -p.2)):=by
 unfold lm at h;refine gB 359 λB w0=>?_;refine go ?_;intro b1 b2;refine go ?_;refine(cZ rfl rfl (BF (a:=p.2) rfl s6)).h ?_;exact eH
def ao7(h:lm p):dZ prog 360 [jf p] [] (jf (-p.1, -p.2)):=by
 unfold lm at h;refine gB 360 λB w0=>?_;refine go ?_;intro b1 b2;refine go ?_;refine(cZ rfl rfl (BF (a:=p.1) rfl s6)).h ?_;refine go ?_;refine(cZ rfl rfl (BF (a:=p.2) rfl s6)).h ?_;exact eH
def ao8(h:lm p):dZ prog 362 [jf p] [] (jf (-p.2,p.1)):=by
 unfold lm at h;refine gB 362 λB w0=>?_;refine go ?_;intro b1 b2;refine go ?_;refine(cZ rfl rfl (BF (a:=p.2) rfl s6)).h ?_;exact eH
def ao9(h:lm p):dZ prog 363 [jf p] [] (jf (p.2, -p.1)):=by
 unfold lm at h;refine gB 363 λB w0=>?_;refine go ?_;intro b1 b2;refine go ?_;refine(cZ rfl rfl (BF (a:=p.1) rfl s6)).h ?_;exact eH
def apa(h:lm p):dZ prog 364 [jf p] [] (jf (-p.2, -p.1)):=by
 unfold lm at h;refine gB 364 λB w0=>?_;refine go ?_;intro b1 b2;refine go ?_;refine(cZ rfl rfl (BF (a:=p.2) rfl s6)).h ?_;refine go ?_;refine(cZ rfl rfl (BF (a:=p.1) rfl s6)).h ?_;exact eH
variable{b k:Nat}
def apb(hk:k<12)(h:lm p):aX prog (.func 365) [jf p] [ptr' b] [] [bW b 0 [iV (k:Int)]] (λ_:Unit=>jf (vX k p)) (λ_=>[]) (λ_=>[]) (λ_=>True):=by
 have hb:=h;unfold lm at hb;refine gB 365 λB w0=>?_;refine go ?_;intro b2 b3;refine go ?_;have er:((k:Int)).tmod 6=((k%6:Nat):Int):=by rw[H6 s6];omega
 refine p9 rfl ?_ ?_<;>intro h1
 .refine go ?_;refine(cZ (v:=iV ((k%6:Nat):Int)) rfl rfl Hs).h ?_;refine go ?_;refine dV (λi:Nat=>6 - i) (λi=>[(13,iV (i:Int))]) (λi=>[pt b2 (.cells [iV (BG i (p.2,p.1)).1,iV (BG i (p.2,p.1)).2])]) (λ_=>[]) (λi=>i<=k%6) 0 (bM _) (hk:=s9) (body:=?_);intro i hi;refine aO ?_ ?_<;>intro h2
  .refine gC (acD (p:=BG i (p.2,p.1)) (OO (by unfold ry;(try dsimp only);omega) i)) λ_ _=>?_;refine go ?_;exact aU (i+1) s6 s6 (hk:=s9)
  obtain rfl:i=k%6:=s6
  refine go ?_;exact qQ () (hv:=by unfold vX;rw[if_pos s6];rfl) (hp:=trivial)
 .refine go ?_;refine(cZ (v:=iV ((k%6:Nat):Int)) rfl rfl Hs).h ?_;refine go ?_;refine dV (λi:Nat=>6 - i) (λi=>[(13,iV (i:Int))]) (λi=>[pt b2 (.cells [iV (BG i p).1,iV (BG i p).2])]) (λ_=>[]) (λi=>i<=k%6) 0 (bM _) (hk:=s9) (body:=?_);intro i hi;refine aO ?_ ?_<;>intro h2
  .refine gC (acD (p:=BG i p) (OO h.q i)) λ_ _=>?_;refine go ?_;exact aU (i+1) s6 s6 (hk:=s9)
  obtain rfl:i=k%6:=s6
  refine go ?_;exact qQ () (hv:=by unfold vX;rw[if_neg s6];rfl) (hp:=trivial)
variable{g:bQ}
def apc(hg:ic g){x:Int}(hx:x∈g.cells):lm (kJ g x):=by
 have hxb:=hg.cell x hx;have h2:=hg.make.wi;have hq:0<=x.tdiv g.w/\x.tdiv g.w<=x:=by
  exact iv
 have hr:0<=x.tmod g.w/\x.tmod g.w<=x:=by
  exact dg
 have hq2:0<=(x.tdiv g.w).tdiv 2/\(x.tdiv g.w).tdiv 2<=x.tdiv g.w:=by
  rw[y9 hq.1];omega
 unfold kJ lm;split<;>(dsimp only;omega)
variable{vh vc:ah}
def apd{x:Int}(hg:ic g)(hx:x∈g.cells):dZ prog 319 [.agg ⟨oz g vh vc⟩,iV x] [] (jf (kJ g x)):=by
 have hxb:=hg.cell x hx;have ng:=hg.make.wi;have hq:0<=x.tdiv g.w/\x.tdiv g.w<=x:=by
  exact iv
 have hr:0<=x.tmod g.w/\x.tmod g.w<=x:=by
  exact dg
 refine gB 319 λB w0=>?_;refine go ?_;intro b2 b4;refine go ?_;refine(cZ rfl rfl (Cx (a:=x) (b:=g.w) rfl rfl s6)).h ?_;refine go ?_;refine(cZ rfl rfl (Jh (a:=x) (b:=g.w) rfl rfl s6 s6 s6)).h ?_;refine aO ?_ ?_<;>intro h2
 .have hso:kJ g x=(x.tmod g.w - (x.tdiv g.w).tdiv 2,x.tdiv g.w):=by unfold kJ;rw[if_pos h2]
  have hq2:0<=(x.tdiv g.w).tdiv 2/\(x.tdiv g.w).tdiv 2<=x.tdiv g.w:=by
   rw[y9 hq.1];omega
  rw[hso];refine go ?_;refine(cZ rfl rfl (Jh (a:=x.tdiv g.w) (b:=2) rfl rfl s6 s6 s6)).h ?_;exact eH
 .have hso:kJ g x=(x.tmod g.w,x.tdiv g.w):=by unfold kJ;rw[if_neg h2]
  rw[hso];exact eH
def xH(c p:Int×Int):Int×Int:=(min c.1 p.1,min c.2 p.2)
def o8(l:ae (Int×Int)):Int×Int:=l.foldl xH (l.headD (0,0))
variable{l:ae (Int×Int)}{v:ah}
def acE(h0:0<l.length)(hl:l.length<2^63):fC prog 320 [v] [aj uH v l] (λ_:Unit=>jf (o8 l)) (λ_=>True):=by
 refine gB 320 λB w0=>?_;refine gF uH v l λal cl el=>?_;subst el;refine go ?_;intro b2;refine gX uH (xs:=l) (k:=0) (h1:=h0) λ_ _ p (_:Unit) hp=>?_;have hhd:l.headD (0,0)=p:=by
  cases l with
  |nil=>cases hp
  |cons a l=>cases hp;rfl
 refine go ?_;intro b3;refine go ?_;refine dV (λi:Nat=>l.length - i) (λi=>[(11,iV (i:Int))]) (λi=>[pt b3 (.cells [iV ((l.take i).foldl xH p).1,iV ((l.take i).foldl xH p).2])]) (λ_=>[]) (λi=>i<=l.length) 0 (bM _) (hk:=s9) (body:=?_);intro i hi;refine aO ?_ ?_<;>intro h2
 .refine gX uH (xs:=l) λ_ _ q (_:Unit) hq=>?_;refine go ?_;intro b5;refine go ?_;refine(cZ rfl rfl (Gf rfl rfl)).h ?_;refine go ?_;refine(cZ rfl rfl (Gf rfl rfl)).h ?_;refine go ?_;have e:(l.take (i+1)).foldl xH p=xH ((l.take i).foldl xH p) q:=by rw[fF hq,wD];rfl
  rw[show min ((l.take i).foldl xH p).1 q.1=((l.take (i+1)).foldl xH p).1 by rw[e];rfl,show min ((l.take i).foldl xH p).2 q.2=((l.take (i+1)).foldl xH p).2 by rw[e];rfl];exact eJ
 obtain rfl:i=l.length:=s6
 refine go ?_;exact qQ () (hv:=by unfold o8;rw[hhd,fu];rfl) (hp:=trivial)
def vY(p:Int×Int):Prop:= -2000<=p.1/\p.1<=2000/\ -2000<=p.2/\p.2<=2000
def ry.c(h:ry p):vY p:=by unfold ry at h;unfold vY;omega
def acF(h:∀p∈l,vY p):vY (o8 l):=by
 have key:∀(l:ae (Int×Int)) (c:Int×Int),(∀p∈l,vY p)->vY c->vY (l.foldl xH c):=by
  intro l;induction l with
  |nil=>intro c _ h;exact h
  |cons x l ih=>
   intro c hl hc;rw[nC];refine ih _ (λp hp=>hl p (dB _ hp)) ?_;have:=hl x (dD ..);unfold vY at *;unfold xH;dsimp only;omega
 refine key l _ h ?_;cases l with
 |nil=>unfold vY;decide
 |cons a l=>exact h a (dD ..)
def ape:∃fs:Array Field,prog.underlying 344=some (.struct fs)/\Gm prog fs.toList 0 [true,true]=true:=by
 refine⟨prog.fieldsOf 344,s8,s8⟩
def acG:rW prog 344 jf where
 Et a:=by
  show uh prog 344 (.agg ⟨[iV a.1,iV a.2]⟩)=true
  kernel_rfl
 find a aA es h:=by
  obtain⟨fs,hu,hrow⟩:=ape;refine RI hu (λa b=>rfl) (λa b=>?_) a aA es h;have:=YW (P:=prog) (d:=9998) (t:=344) (xs:=[iV a.1,iV a.2]) (ys:=[iV b.1,iV b.2]) hu s8 (row_of hrow rfl rfl (λj=>by rw[eB]) (λj=>by rw[eB]));refine Eq.trans this ?_;congr 1;show(decide (a.1=b.1)&&(decide (a.2=b.2)&&true))=_;rw[Bool.and_true,<- Bool.decide_and];exact rF.2 ⟨λh=>Prod.ext h.1 h.2,λh=>by rw[h];exact⟨rfl,rfl⟩⟩
 same a:=by
  show((⟨[Value.int .i64 a.1,iV a.2]⟩:Array ah).size==(⟨[Value.int .i64 a.1,iV a.2]⟩:Array ah).size&&(List.zip [Value.int .i64 a.1,iV a.2] [Value.int .i64 a.1,iV a.2]).all λ(x,y)=>Instr.sameBits 9999 x y)=true;simp[Instr.sameBits]
def G9(f:Int×Int->Int×Int)(v:ah):aI:=⟨λw=>∃fn cap Fx,v=.func fn ⟨[]⟩ ⟨cap⟩/\(∀p,lm p->aX prog fn [jf p] cap [] Fx (λ_:Unit=>jf (f p)) (λ_=>[]) (λ_=>[]) (λ_=>True))/\∀φ∈Fx,φ.p w,
 λa ⟨fn,cap,Fx,h1,h2,h3⟩=>⟨fn,cap,Fx,h1,h2,λφ hφ=>φ.mono a (h3 φ hφ)⟩⟩
def apf{fn:Fn}{cap:ae ah}(h:lm p):aX prog fn [jf p] cap [] [G9 f (.func fn ⟨[]⟩ ⟨cap⟩)] (λ_:Unit=>jf (f p)) (λ_=>[]) (λ_=>[]) (λ_=>True):=λB w s=>by
 obtain⟨fn',cap',Fx,e,h1,h2⟩:=s.facts _ (bA.2 rfl);injection e with e1 e2 e3;injection e3 with e3;subst e1 e3;exact h1 p h B w ⟨s.agree,s.le,s.fH,s.own,h2⟩
variable{B:ae Nat}{w0:Wd}{kl:ae OA}{F:ae aI}
def apg{Q:IH->Prop}(h:∀fn cap,v=.func fn ⟨[]⟩ ⟨cap⟩->R Q B w0 kl F)(hf:G9 f v∈F:=by exact iN):R Q B w0 kl F:=λw s=>by
 obtain⟨fn,cap,Fx,e,_⟩:=s.facts _ hf;exact h fn cap e w s
def Dl:Enc (Int×Int->Int×Int):=⟨1,ah,λ_ v=>[v],λf v=>[G9 f v],λ_ _=>rfl⟩
abbrev BH(n:fO):ah:=.func (.func n) ⟨[]⟩ ⟨[]⟩
def sqV:ae ah:=[BH 357,BH 358,BH 359,BH 360,BH 361,BH 362,BH 363,BH 364]
def Dm{n:fO}(h:∀p,lm p->dZ prog n [jf p] [] (jf (f p)))(w:Wd):(G9 f (BH n)).p w:=⟨.func n,[],[],rfl,h,λφ hφ=>by cases hφ⟩
def aph(h:Dk[k]? =some f):∃v,sqV[k]? =some v/\∀w,(G9 f v).p w:=by
 unfold Dk at h;match k,h with
 |0,h=>injection h with h;subst h;exact⟨_,rfl,Dm λp hp=>ao3⟩
 |1,h=>injection h with h;subst h;exact⟨_,rfl,Dm λp hp=>ao5 hp⟩
 |2,h=>injection h with h;subst h;exact⟨_,rfl,Dm λp hp=>ao6 hp⟩
 |3,h=>injection h with h;subst h;exact⟨_,rfl,Dm λp hp=>ao7 hp⟩
 |4,h=>injection h with h;subst h;exact⟨_,rfl,Dm λp hp=>ao4⟩
 |5,h=>injection h with h;subst h;exact⟨_,rfl,Dm λp hp=>ao8 hp⟩
 |6,h=>injection h with h;subst h;exact⟨_,rfl,Dm λp hp=>ao9 hp⟩
 |7,h=>injection h with h;subst h;exact⟨_,rfl,Dm λp hp=>apa hp⟩
 |k+8,h=>cases h
def api:oK (pt b (.cells sqV)) [aj Dl (.slice (some ⟨b,0,some 0⟩) 8 8) Dk]:=by
 intro w w' S ⟨h1,h2⟩ hle hh hz g hg;rw[bA.1 hg];refine .inr ⟨b,0,0,8,_,⟨rfl,td,.inl rfl⟩,⟨hz b tn,.inl tW⟩,λk f hk=>?_⟩;obtain⟨v,hv,hc⟩:=aph hk;refine⟨v,λj u hj=>?_,λφ hφ=>by rw[bA.1 hφ];exact hc w'⟩;match j,hj with
 |0,hj=>
  have hj:some v=some u:=hj;rw[show 0+k*Dl.n+0=k by show 0+k*1+0=k;omega,hv,hj]
 |j+1,hj=>cases hj
def apj:aX prog (.func 321) [iV s] [] [] [] (λv:ah=>v) (λ_=>[]) (λv=>[aj Dl v (kR s)]) (λ_=>True):=by
 refine gB 321 λB w0=>?_;refine aO ?_ ?_<;>intro h1
 .refine go ?_;intro b3;refine go ?_;have hm:kR s=Dk:=by unfold kR;rw[if_pos h1]
  rw[hm];refine(cZ (v:=.slice (some ⟨b3,0,some 0⟩) 8 8) rfl rfl (λh=>rfl)).h ?_;refine mD (api (b:=b3)) (hk:=CA) (h:=?_);refine go ?_;exact gQ (.slice (some ⟨b3,0,some 0⟩) 8 8) trivial
 have hm:kR s=(List.range 12).map vX:=by unfold kR;rw[if_neg h1]
 refine go ?_;refine lT Dl ?_;refine dV (λy:Nat×ah=>12 - y.1) (λy=>[(12,iV (y.1:Int)),(4,y.2)]) (λy=>[ap Dl y.2 ((List.range y.1).map vX)]) (λ_=>[]) (λy=>y.1<=12) (0,.slice none 0 0) (bM _) (hk:=s9) (body:=?_);rintro⟨k,v⟩ hk;dsimp only at hk⊢;refine aO ?_ ?_<;>intro h2
 .refine go ?_;intro b5;refine go ?_;intro b17;refine gP b5 ?_;refine eD (G9 (vX k) (.func (.func 365) ⟨[]⟩ ⟨[ptr' b5]⟩)) (λw hw=>⟨_,_,[bW b5 0 [iV (k:Int)]],rfl,λp hp=>apb s6 hp,λφ hφ=>by rw[bA.1 hφ];exact hw _ (dD ..)⟩) ?_;refine kY Dl (v:=v) (xs:=(List.range k).map vX) (vX k) (.func (.func 365) ⟨[]⟩ ⟨[ptr' b5]⟩) (cs:=[.func (.func 365) ⟨[]⟩ ⟨[ptr' b5]⟩]) (hm:=by rw[aR,nG];omega) (next:=λv2=>?_);refine go ?_;rw[aR,nG,show(List.range k).map vX++[vX k]=(List.range (k+1)).map vX by rw[Ag,cB];rfl];exact aU (k+1,.slice v2 (k+1) (k+1)) (by show 12 - (k+1)<12 - k;omega) (by show k+1<=12;omega)
 obtain rfl:k=12:=s6
 rw[hm];refine gZ jr ?_;refine go ?_;exact gQ v trivial
def Dn(l:ae (Int×Int)):ae ah:=cO uH (l.map λp=>(p,()))
def acI(n:Nat):zeros [iV 0,iV 0] n=Dn (List.replicate n (0,0)):=by
 induction n with
 |zero=>rfl
 |succ n ih=>
  show lM [iV 0,iV 0] (zeros [iV 0,iV 0] n)=_;rw[ih];rfl
def tX(l:ae (Int×Int))(n:Nat):ae (Int×Int):=l++List.replicate (n - l.length) (0,0)
variable{n:Nat}
def acJ(h:l.length<=n):(tX l n).length=n:=by unfold tX;rw[eF,wC];omega
def acK{x:Int×Int}(h:l.length<n):(tX l n).set l.length x=tX (l++[x]) n:=by
 unfold tX;rw[Af _ _ (aZ _),nX,show n - l.length=(n - (l++[x]).length)+1 by rw[eF,u7];omega,xO,List.append_assoc];rfl
def acL(h:l.length=n):tX l n=l:=by unfold tX;rw[h,nX];exact gW l
def apk{x:Int×Int}:Dn (l.set k x)=cO uH ((l.map λp=>(p,())).set k (x,())):=by unfold Dn;rw[pQ];rfl
variable{y:ay}{K:KO}{ds:ae Tmp}{rest:ae bN}{D:ae Deferred}{pm:ak FrameMode}{ro:ak Nat}
def acM{kl':ae OA}{l:qr}{g:ak (Tmp×Bool)}{L:ae (Int×Int)}{o:Nat}(q:Int×Int)(hlt:k<L.length)(ho:o=k*2)
 (next:R (λh=>aM prog ds rest (act n l D pm ro) h K) B w0 (pt b (.cells (Dn (L.set k q)))::kl') F)
 (hx:ev l x=.pointer (some ⟨b,o,none⟩):=by rfl) (hy:ev l y=jf q:=by rfl) (hk:aB (pt b (.cells (Dn L))) kl kl':=by exact dU) (hg:bO l g=true:=by rfl):
 R (λh=>aM prog ds (⟨⟨none,g,.store 2 x y⟩,[]⟩::rest) (act n l D pm ro) h K) B w0 kl F:=by
 rw[apk]at next
 exact Zx uH (aC:=L.map λp=>(p,())) (k:=k) (o:=o) (m:=2) (q,()) (by rw[aR];exact hlt) ho next hx hy hk rfl hg
def acN(h:l.length=n):oK (pt b (.cells (Dn l))) [aj uH (.slice (some ⟨b,0,some 0⟩) n n) l]:=by
 subst h;intro w w' S ⟨h1,h2⟩ hle hh hz g hg;rw[bA.1 hg];refine .inr ⟨b,0,0,_,_,⟨rfl,aZ _,.inl rfl⟩,⟨hz b tn,.inl tW⟩,λk x hk=>⟨(),λj u hj=>?_,λf hf=>by cases hf⟩⟩;rw[eB];exact yF (p:=(x,())) (by rw[bU,hk];rfl) hj
variable{d bytes:Nat}
def apl{l:qr}{g:ak (Tmp×Bool)}{e:aD}{size:Nat}{zero:ae ah}(m:Nat)(hm:m*bytes<=1073741824/\m*size<=1073741824/\m<=1073741824)
 (next:∀b,R (λh=>aM prog ds rest (act n ((d,.slice (some ⟨b,0,some 0⟩) 0 m)::l) D pm ro) h K) B w0 (pt b (.cells (zeros zero m))::kl) F)
 (hx:ev l x=iV (Int.ofNat 0):=by rfl) (hy:ev l y=iV (m:Int):=by rfl) (hn:Nat.blt d n=true:=by rfl) (hg:bO l g=true:=by rfl):
 R (λh=>aM prog ds (⟨⟨some d,g,.xQ e size bytes zero x y⟩,[]⟩::rest) (act n l D pm ro) h K) B w0 kl F:=λw s=>by
 have hle:∀{a b:Nat},a<=b->Nat.ble a b=true:=λh=>by rw[uY];exact h
 refine mV hn hg (h':=w.h.new (.cells (zeros zero m))) (v:=.slice (some ⟨w.h.next,0,some 0⟩) 0 m) ?_ (next w.h.next (w.new _) (s.new _));simp only[aK.run,aK.alloc,hx,hy];show uj (cond (Nat.ble 0 m&&Nat.ble (Nat.mul m bytes) small&&Nat.ble (Nat.mul m size) small&&Nat.ble m small) _ none) w.h=_;rw[hle (bM m),hle (show Nat.mul m bytes<=small from hm.1),hle (show Nat.mul m size<=small from hm.2.1),hle (show m<=small from hm.2.2)];rfl
def apm{k1 k2:ae OA}{l:qr}{g:ak (Tmp×Bool)}{e:aD}{b' m cap:Nat}{f:ak Nat}{s:ay}(v y:ah)(cs1 cs2:ae ah)(h1:cs1.length=m)(hc:m+1<=cap)
 (hm:(m+1)*bytes<=1073741824/\m+1<=1073741824)
 (next:R (λh=>aM prog ds rest (act n ((d,.slice (some ⟨b,0,f⟩) (m+1) cap)::l) D pm ro) h K) B w0 (pt b (.cells (cs1++v::cs2))::k2) F)
 (hs:ev l s=.slice (some ⟨b,0,f⟩) m cap:=by rfl) (hx:ev l x=.slice (some ⟨b',0,some 0⟩) 1 1:=by rfl) (hk:aB (pt b' (.cells [v])) kl k1:=by exact dU) (hk2:aB (pt b (.cells (cs1++y::cs2))) k1 k2:=by exact dU) (hn:Nat.blt d n=true:=by rfl) (hg:bO l g=true:=by rfl):
 R (λh=>aM prog ds (⟨⟨some d,g,.append e 1 bytes s x⟩,[]⟩::rest) (act n l D pm ro) h K) B w0 kl F:=λw st=>by
 have hle:∀{a b:Nat},a<=b->Nat.ble a b=true:=λh=>by rw[uY];exact h
 have st1:=st.fI hk;have hb':w.h.get b'=some (.cells [v]):=st1.get.1;have st2:=st1.tail.fI hk2;have hlv:jH (cs1++y::cs2) cs1.length [v]=some (cs1++v::cs2):=by
  rw[Nc s7];rfl
 refine mV hn hg (v:=.slice (some ⟨b,0,f⟩) (m+1) cap) (h':=w.h.set b (.cells (cs1++v::cs2))) ?_ (next ⟨w.h.set b _,w.z,λi hi=>w.nN i hi⟩ st2.write);have e1:w.h.storeAt b (Nat.add 0 (Nat.mul m 1)) [v]=some (w.h.set b (.cells (cs1++v::cs2))):=by
  unfold IH.storeAt;simp only[st2.get.1];rw[show Nat.add 0 (Nat.mul m 1)=cs1.length by rw[h1];show 0+m*1=m;omega,hlv]
 have r1:ql (.slice (some ⟨b',0,some 0⟩) 1 1)=some 1:=rfl;have r2:Al 1 1 (.slice (some ⟨b',0,some 0⟩) 1 1) w.h=some [v]:=by
  show w.h.jd b' 0 (1*1)=some [v];unfold IH.jd;simp only[hb'];rfl
 simp only[aK.run,hx,hs,r1,r2,zb];show cond (Nat.ble (Nat.mul (m+1) bytes) small&&Nat.ble (Nat.mul (m+1) 1) small&&Nat.ble (m+1) small) (cond (Nat.ble (m+1) cap) (match w.h.storeAt b (Nat.add 0 (Nat.mul m 1)) [v]with|some h=>some (Value.slice (some ⟨b,0,f⟩) (m+1) cap,h)|none=>none) _) none=_;rw[hle (show Nat.mul (m+1) bytes<=small from hm.1),hle (show Nat.mul (m+1) 1<=small by show(m+1)*1<=1073741824;omega),hle (show m+1<=small from hm.2),hle hc,e1];rfl
def xI(p c:Int×Int):Int×Int:=(p.1 - c.1,p.2 - c.2)
def gT(g:bQ):ae (Int×Int):=g.cells.map (kJ g)
def si(zS:ae (Int×Int))(low:Int×Int)(k:Nat):ae ((Int×Int)×ah):=((zS.zipIdx).take k).foldl (λm q=>upd (xI q.1 low) (iV (q.2:Int)) m) []
def He(m:ae ((Int×Int)×ah))(a:Int×Int):ak Int:=match dF a m with
 |some (.int .i64 i)=>some i
 |_=>none
def uT(g:bQ)(f:Int×Int->Int×Int):ak (ae Int):=
 let to:=(gT g).map f
 let l:=to.filterMap λp=>He (si (gT g) (o8 (gT g)) g.cells.length) (xI p (o8 to))
 if l.length=to.length then some l else none
def uU(g:bQ):ae (ae Int):=(kR g.shape).filterMap (uT g)
variable{low:Int×Int}{zS:ae (Int×Int)}
def apn:∀k,∀p∈si zS low k,∃i:Nat,p.2=iV (i:Int):=by
 intro k;unfold si;have key:∀(l:ae ((Int×Int)×Nat)) (m:ae ((Int×Int)×ah)),(∀p∈m,∃i:Nat,p.2=iV (i:Int))->∀p∈l.foldl (λm q=>upd (xI q.1 low) (iV (q.2:Int)) m) m,∃i:Nat,p.2=iV (i:Int):=by
  intro l;induction l with
  |nil=>intro m h;exact h
  |cons q l ih=>
   intro m h;rw[nC];refine ih _ λp hp=>?_;have hu:∀(m:ae ((Int×Int)×ah)),(∀p∈m,∃i:Nat,p.2=iV (i:Int))->∀p∈upd (xI q.1 low) (iV (q.2:Int)) m,∃i:Nat,p.2=iV (i:Int):=by
    intro m;induction m with
    |nil=>intro _ p hp;rw[bA.1 hp];exact⟨_,rfl⟩
    |cons c m ihm=>
     intro h p hp;obtain⟨c1,c2⟩:=c;unfold upd at hp;split at hp
     .rcases bH.1 hp with rfl|hp
      .exact⟨_,rfl⟩
      .exact h p (dB _ hp)
     .rcases bH.1 hp with rfl|hp
      .exact h _ (dD ..)
      .exact ihm (λp hp=>h p (dB _ hp)) p hp
   exact hu m h p hp
 exact key _ [] (λp hp=>by cases hp)
variable{a:Int×Int}
def apq{m:ae ((Int×Int)×ah)}(h:dF a m=some v):∃b,(b,v)∈m:=by
 induction m with
 |nil=>cases h
 |cons c m ih=>
  obtain⟨c1,c2⟩:=c;unfold dF at h;split at h
  .cases h;exact⟨_,dD ..⟩
  .obtain⟨b,hb⟩:=ih h;exact⟨b,dB _ hb⟩
def apr:(∃i:Nat,He (si zS low k) a=some (i:Int)/\jJ true (iV 0) a (si zS low k)=.tuple #[iV (i:Int),.bool true])\/(He (si zS low k) a=none/\jJ true (iV 0) a (si zS low k)=.tuple #[iV 0,.bool false]):=by
 unfold He jJ;cases h:dF a (si zS low k)with
 |none=>exact .inr ⟨rfl,rfl⟩
 |some v=>
  left;obtain⟨b,hb⟩:=apq h;obtain⟨i,hi⟩:=apn k _ hb;dsimp only at hi;subst hi;exact⟨i,rfl,rfl⟩
def acO{α:Type}{a b c:ae α}(h:aF a b c):∀k:ae α,aF (k++a) (k++b) c
 |[]=>h
 |x::k=>.cons .here (acO h k)
def aps{bg:Nat}(hg:ic g):Gn prog (λy:ah×ae Int=>[y.1]) (λy=>[aj ai y.1 y.2]) (.func 318) [] [ptr' bg] [bW bg 0 (oz g vh vc),aj ai vc g.cells] (λxs=>xs.map (·.2)=uU g):=by
 intro S inv ok step s0 tq y1 y2 F' h0 hok hy;dsimp only[List.cons_append,List.nil_append];have hcl:g.cells.length<=256:=hg.len;have hcp:0<g.cells.length:=aai hg;refine gB 318 λB w0=>?_;refine gF ai vc g.cells λac cc ec=>?_;subst ec;refine go ?_;refine sW g.cells.length ⟨s6,s6,s6⟩ λbm=>?_;rw[acI];refine go ?_;refine dV (λi=>g.cells.length - i) (λi:Nat=>[(28,iV (i:Int))]) (λi=>[pt bm (.cells (Dn (tX ((gT g).take i) g.cells.length)))]) (λ_=>[]) (λi=>i<=g.cells.length) 0 (bM _) (hk:=s9) (body:=?_);intro i hi;refine aO ?_ ?_<;>intro h1
 .refine go ?_;intro _ _ x hx;refine gC (apd (g:=g) (vh:=vh) (vc:=.slice ac g.cells.length cc) (x:=x) hg (aT hx)) λ_ _=>?_;refine go ?_;have hfi:((gT g).take i).length=i:=by unfold gT;rw[fU,aR];omega
  have hfx:(gT g)[i]? =some (kJ g x):=by unfold gT;rw[bU,hx];rfl
  refine acM (L:=tX ((gT g).take i) g.cells.length) (k:=i) (o:=0+i*2) (kJ g x) (by rw[acJ s6];omega) s6 ?_;have hst:(tX ((gT g).take i) g.cells.length).set i (kJ g x)=tX ((gT g).take (i+1)) g.cells.length:=by
   have:=acK (l:=(gT g).take i) (n:=g.cells.length) (x:=kJ g x) s6;rw[hfi]at this;rw[this,fF hfx]
  rw[hst];refine go ?_;exact eJ
 obtain rfl:i=g.cells.length:=s6
 have hfl:(gT g).length=g.cells.length:=by unfold gT;rw[aR]
 rw[xP s6,acL hfl];refine gZ (acN hfl) ?_;generalize(some (⟨bm,0,some 0⟩:Addr))=am;refine gC (acE (l:=gT g) s6 s6) λ_ _=>?_;refine go ?_;intro b6;refine go ?_;have hsb:∀p∈gT g,lm p:=λp hp=>by
  obtain⟨x,hx,rfl⟩:=bS.1 hp;exact apc hg hx
 have hlow:=acF (l:=gT g) (λp hp=>(hsb p hp).q.c);unfold vY at hlow;refine yD jf (λb7=>?_);refine go ?_;refine dV (λi=>g.cells.length - i) (λi:Nat=>[(45,iV (i:Int))]) (λi=>[fV jf b7 (si (gT g) (o8 (gT g)) i)]) (λ_=>[]) (λi=>i<=g.cells.length) 0 (bM _) (hk:=s9) (body:=?_);intro i hi;refine aO ?_ ?_<;>intro h1
 .refine gX uH (xs:=gT g) λ_ _ p (_:Unit) hp=>?_;have hpb:=(hsb p (aT hp))
  unfold lm at hpb;refine go ?_;intro b9;refine go ?_;refine vJ acG (xI p (o8 (gT g))) ?_ (ha:=rfl);have hz:(gT g).zipIdx[i]? =some (p,i):=by rw[VT,hp];simp
  have hat:upd (xI p (o8 (gT g))) (iV (i:Int)) (si (gT g) (o8 (gT g)) i)=si (gT g) (o8 (gT g)) (i+1):=by
   unfold si;rw[fF hz,wD];rfl
  rw[hat];refine go ?_;exact eJ
 obtain rfl:i=g.cells.length:=s6
 refine gZ Ew ?_;refine gC (apj (s:=g.shape)) λvm _=>?_;refine gF Dl vm (kR g.shape) λamp cmp emp=>?_;subst emp;have hml:(kR g.shape).length<=12:=by unfold kR;split<;>simp[Dk]
 refine go ?_;refine dV (λy:Nat×ae (ah×ae Int)×S=>(kR g.shape).length - y.1) (λy=>[(68,iV (y.1:Int))]) (λy=>inv y.2.2) (λ_=>[]) (λy=>y.1<=(kR g.shape).length/\ok y.2.1 y.2.2/\y.2.1.map (·.2)=((kR g.shape).take y.1).filterMap (uT g)/\∀rest,dA step s0 (y.2.1++rest)=dA step y.2.2 rest) (0,[],s0) ⟨bM _,h0,rfl,λ_=>rfl⟩ (body:=?_);rintro⟨j,di,bX⟩ ⟨hj,hos,lH,hrun⟩;dsimp only at hj hos lH hrun⊢;refine aO ?_ ?_<;>intro h1
 rotate_left
 .have hr2:=hrun [];rw[gW]at hr2;refine go ?_;exact gQ di (by show di.map (·.2)=uU g;rw[lH,xP s6];rfl) (hk:=by rw[hr2];exact aF.self _ _)
 refine gX Dl (xs:=kR g.shape) λ_ _ f (vf:ah) hf=>?_;have hfm:=aT hf;have hdr:(kR g.shape).drop j=f::(kR g.shape).drop (j+1):=by
  obtain⟨h2,h3⟩:=aV.1 hf;rw[<- h3];exact nH h2
 refine apg (f:=f) (v:=vf) (λfn cap ef=>?_);subst ef;refine go ?_;refine sW g.cells.length ⟨s6,s6,s6⟩ λbt=>?_;rw[acI];refine go ?_;have htl:((gT g).map f).length=g.cells.length:=by rw[aR,hfl]
 refine dV (λi=>g.cells.length - i) (λi:Nat=>[(77,iV (i:Int))]) (λi=>[pt bt (.cells (Dn (tX (((gT g).map f).take i) g.cells.length)))]) (λ_=>[]) (λi=>i<=g.cells.length) 0 (bM _) (hk:=s9) (body:=?_);intro i hi;refine aO ?_ ?_<;>intro h2
 .refine gX uH (xs:=gT g) λ_ _ p (_:Unit) hp=>?_;refine go ?_;intro b14;refine gC (apf (f:=f) (fn:=fn) (cap:=cap) (p:=p) (hsb p (aT hp))) λ_ _=>?_;refine go ?_;have hfi:(((gT g).map f).take i).length=i:=by rw[fU];omega
  have hfx:((gT g).map f)[i]? =some (f p):=by rw[bU,hp];rfl
  refine acM (L:=tX (((gT g).map f).take i) g.cells.length) (k:=i) (o:=0+i*2) (f p) (by rw[acJ s6];omega) s6 ?_;have hst:(tX (((gT g).map f).take i) g.cells.length).set i (f p)=tX (((gT g).map f).take (i+1)) g.cells.length:=by
   have:=acK (l:=((gT g).map f).take i) (n:=g.cells.length) (x:=f p) s6;rw[hfi]at this;rw[this,fF hfx]
  rw[hst];refine go ?_;exact eJ
 obtain rfl:i=g.cells.length:=s6
 rw[xP s6,acL htl];refine gZ (acN htl) ?_;generalize(some (⟨bt,0,some 0⟩:Addr))=at_;refine go ?_;have htb:∀p∈(gT g).map f,vY p:=λp hp=>by
  obtain⟨q,hq,rfl⟩:=bS.1 hp;exact(ao2 hfm (hsb q hq)).c
 have hct:=acF htb;unfold vY at hct;refine iy (acE (l:=(gT g).map f) s6 s6) (next:=λ_ _=>?_);refine go ?_;intro b15;refine go ?_;refine apl g.cells.length ⟨s6,s6,s6⟩ λbl=>?_;rw[BB];refine go ?_;generalize hto:(gT g).map f=to at *;generalize hφ:(λp=>He (si (gT g) (o8 (gT g)) g.cells.length) (xI p (o8 to)))=φ;have hfe:uT g f=if(to.filterMap φ).length=to.length then some (to.filterMap φ)else none:=by
  unfold uT;dsimp only;rw[hto,hφ]
 refine dV (λi=>g.cells.length - i) (λi:Nat=>[(96,iV (i:Int)),(16,.slice (some ⟨bl,0,some 0⟩) ((to.take i).filterMap φ).length g.cells.length)]) (λi=>[pt bl (.cells ((gM ((to.take i).filterMap φ) g.cells.length).map iV))]) (λ_=>[]) (λi=>i<=g.cells.length) 0 (bM _) (hk:=s9) (body:=?_);intro i hi;have hle:((to.take i).filterMap φ).length<=i:=oH (VU ..) tw;refine aO ?_ ?_<;>intro h3
 .refine gX uH (xs:=to) λ_ _ p (_:Unit) hp=>?_;have hpb:=htb p (aT hp);unfold vY at hpb;refine go ?_;intro b18;refine go ?_;refine Rz acG (xI p (o8 to)) ?_ (ha:=rfl);have hφp:φ p=He (si (gT g) (o8 (gT g)) g.cells.length) (xI p (o8 to)):=by rw[<- hφ]
  have htk:(to.take (i+1)).filterMap φ=(to.take i).filterMap φ++(match φ p with|some x=>[x]|none=>[]):=by
   rw[fF hp,KS];congr 1;rw[V5];cases φ p<;>rfl
  rcases apr (zS:=gT g) (low:=o8 (gT g)) (a:=xI p (o8 to)) (k:=g.cells.length)with⟨x,e1,e2⟩|⟨e1,e2⟩
  .rw[<- hφp]at e1;rw[e1]at htk;rw[show jJ true (iV 0) (xI p (o8 to)) (si (gT g) (o8 (gT g)) g.cells.length)=.tuple #[iV (x:Int),.bool true]from e2];refine go ?_;intro b19;have apt:(gM ((to.take i).filterMap φ) g.cells.length).map (Value.int .i64)=((to.take i).filterMap φ).map iV++iV 0::(List.replicate (g.cells.length - ((to.take i).filterMap φ).length - 1) 0).map iV:=by
    unfold gM;rw[show g.cells.length - ((to.take i).filterMap φ).length=(g.cells.length - ((to.take i).filterMap φ).length - 1)+1 by omega,xO,cB,fA];rfl
   rw[apt];refine apm (b:=bl) (b':=b19) (m:=((to.take i).filterMap φ).length) (cap:=g.cells.length) (f:=some 0) (iV (x:Int)) (iV 0) (((to.take i).filterMap φ).map iV) ((List.replicate (g.cells.length - ((to.take i).filterMap φ).length - 1) 0).map iV) (by rw[aR]) s6 ⟨s6,s6⟩ ?_;have apu:((to.take i).filterMap φ).map (Value.int .i64)++iV (x:Int)::(List.replicate (g.cells.length - ((to.take i).filterMap φ).length - 1) 0).map iV=(gM ((to.take (i+1)).filterMap φ) g.cells.length).map iV:=by
    rw[htk];unfold gM;rw[cB,cB,List.append_assoc,eF,u7,Nat.sub_sub];rfl
   have hpl:((to.take i).filterMap φ).length+1=((to.take (i+1)).filterMap φ).length:=by rw[htk,eF];rfl
   rw[apu,hpl];refine go ?_;exact eJ
  .rw[<- hφp]at e1;rw[e1]at htk;rw[show jJ true (iV 0) (xI p (o8 to)) (si (gT g) (o8 (gT g)) g.cells.length)=.tuple #[iV 0,.bool false]from e2];refine go ?_;rw[gW]at htk;rw[<- htk];exact eJ
 obtain rfl:i=g.cells.length:=s6
 rw[xP s6]at hle⊢;generalize hls:to.filterMap φ=ls at *;refine go ?_;by_cases hL:((ls.length:Int)=(g.cells.length:Int))
 .rw[eT hL];have hln:ls.length=g.cells.length:=by omega
  rw[BA hln];refine gZ (qP (b:=bl) (f:=0) (c:=g.cells.length) (xs:=ls) (hc:=s6)) ?_;have OP:uT g f=some ls:=by rw[hfe,if_pos s6]
  generalize zi:((.slice (some ⟨bl,0,some 0⟩) ls.length g.cells.length,ls):ah×ae Int)=yy;have hX:(di++yy::(((kR g.shape).drop (j+1)).filterMap (uT g)).map λq=>((.slice none 0 0:ah),q)).map (·.2)=uU g:=by
   have hy2:yy.2=ls:=by rw[<- zi]
   have e1:uU g=((kR g.shape).take j).filterMap (uT g)++((kR g.shape).drop j).filterMap (uT g):=by
    rw[<- KS,nE];rfl
   rw[e1,hdr,V5,OP,cB,lH,fA,rG,hy2];congr 2;exact(BX _).symm▸rfl
  have gy:=hy di bX yy _ hos hX;dsimp only at gy;rw[show yy.1=.slice (some ⟨bl,0,some 0⟩) ls.length g.cells.length by rw[<- zi],show yy.2=ls by rw[<- zi]]at gy;rw[dm,cK]at gy;refine gC gy λ_ _=>?_;cases hst:(step bX yy).2 with
  |true=>
   have hs1:step bX yy=((step bX yy).1,true):=Prod.ext rfl hst;refine go ?_;refine aU (j+1,di++[yy],(step bX yy).1) Fm ⟨by show j+1<=_;omega,hok _ bX _ _ hos hX hst,?_,λrest=>?_⟩ (hk:=acO (.cons (.there .here) .nil) _)
   .show(di++[yy]).map (·.2)=((kR g.shape).take (j+1)).filterMap (uT g);rw[fF hf,KS,cB,lH,V5,OP,l6,show yy.2=ls by rw[<- zi]];rfl
   .exact lj
  |false=>
   have hs1:step bX yy=((step bX yy).1,false):=Prod.ext rfl hst;have hr:=hrun (yy::(((kR g.shape).drop (j+1)).filterMap (uT g)).map λq=>((.slice none 0 0:ah),q));rw[dA,hs1]at hr;dsimp only at hr;refine go ?_;exact gQ (di++yy::(((kR g.shape).drop (j+1)).filterMap (uT g)).map λq=>((.slice none 0 0:ah),q)) hX (hk:=CC)
 .rw[bY hL];have OP:uT g f=none:=by rw[hfe,if_neg s6]
  refine go ?_;refine aU (j+1,di,bX) Fm ⟨by show j+1<=_;omega,hos,?_,hrun⟩;show di.map (·.2)=((kR g.shape).take (j+1)).filterMap (uT g);rw[fF hf,KS,lH,V5,OP];exact(gW _).symm
def apv:aX prog (.func 228) [.agg ⟨oz g vh vc⟩] [] [] [] (λb:Nat=>.func (.func 318) #[] #[ptr' b]) (λ_=>[]) (λb=>[bW b 0 (oz g vh vc)]) (λ_=>True):=by
 refine gB 228 λB w0=>?_;refine go ?_;intro b1;refine gP b1 ?_;refine go ?_;exact gQ b1 trivial
