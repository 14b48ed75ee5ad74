/- Part. -/
import Derived.Shelf.Spec.SlicesInsertGrow
import Derived.OwnWalk
import Derived.Test.YtignbinlipkmfaaGreatDoorLibMR
set_option linter.all false
set_option maxRecDepth 10000
set_option maxHeartbeats 4000000
namespace Go.Proofs.YtignbinlipkmfaaGreatDoor
open Tryz (prog)
open Go.Proofs Go.Shelf Go.RowKit Go.Lib
def acQ:(prog.info? 22).map (λi=>(i.zero,i.size,i.bytes))=some (some (.slice none 0 0),1,24):=th
def VG:prog.follows .mixedOrders=true:=th
set_option maxHeartbeats 4000000 in
set_option maxRecDepth 100000 in
def aqp(b off n c i vb vo:Nat)(cs:ae ah)(v:ah)(w:World)(hi:i<n)(hroom:n+1<=c)(hbig:(n+1)*24<=140737488355328)(hvb:vb≠b)(hcl:cs.length=n)
 (hcs:∀j u,cs[j]? =some u->w.cell? ⟨b,off+j,none⟩=some u) (hsp:∀j,j<n+1->(w.cell? ⟨b,off+j,none⟩).isSome=true) (hfz:∀j,j<n+1->w.frozen? ⟨b,off+j,none⟩=false)
 (hv:w.cell? ⟨vb,vo,none⟩=some v) (h1c:∀u∈cs,u.oneCell'=true) (h1v:v.oneCell'=true)
 (tA tB:aF) (kA kB:Nat) (hsa:w.shape? vb=some (tA,kA)) (hsb:w.shape? b=some (tB,kB)) (hkB:kB≠0) (hfa:w.frozen? ⟨vb,vo,none⟩=false) (hfe:w.frozen? ⟨vb,kA,none⟩=false):
 Calls prog 108 #[.slice (some ⟨b,off,none⟩) n c,(Value.int .i64) i,.slice (some ⟨vb,vo,none⟩) 1 1] w λe w'=>
  e=.returned (.slice (some ⟨b,off,none⟩) (n+1) c)/\w'=(w.drew.setCells b (off+(i+1)) (cs.drop i)).setCells b (off+i) [v]:=by
 have u0:=run_underlying Tryz.underlying0;have u3:=run_underlying Tryz.underlying3;have u4:=run_underlying Tryz.underlying4;have u22:=run_underlying Tryz.underlying22;have u31:=run_underlying Tryz.underlying31;have a0:=Tryz.isAgg0;have z0:=Tryz.sizeOf0;have v0:=Tryz.zeroValue0;have a3:=Tryz.isAgg3;have z3:=Tryz.sizeOf3;have v3:=Tryz.zeroValue3;have a4:=Tryz.isAgg4;have z4:=Tryz.sizeOf4;have v4:=Tryz.zeroValue4;have a22:=Tryz.isAgg22;have z22:=Tryz.sizeOf22;have v22:=Tryz.zeroValue22;have a31:=Tryz.isAgg31;have z31:=Tryz.sizeOf31;have v31:=Tryz.zeroValue31;have hz2:¬((i:Int)=(n:Int)):=tf
 have hsz:(prog.info? 22).map (·.size)=some 1:=by
  obtain⟨i0,hi0,h0,h1,h2⟩:=info_parts acQ;rw[hi0];simp[h1]
 have hov:∀lb cb,(callFunc 195 #[.slice (some ⟨vb,vo,none⟩) 1 1,.slice (some ⟨b,off+(i+1),none⟩) lb cb]).run prog w=.ok (.value (.bool false)) w:=λlb cb=>by
  rw[run_callFunc_extern Tryz.func195 th th th (e:=Extern.SlicesOverlaps.overlaps #[31,31] #[4]) th,
   Lib.run_overlaps_apart w 31 4 22 Tryz.underlying31 1 z22 ⟨vb,vo,none⟩ ⟨b,off+(i+1),none⟩ 1 1 lb cb hvb tA tB kA kB hsa hsb hkB hfa hfe]
  rfl
 have hdl:(cs.drop i).length=n - i:=by rw[uT,hcl]
 have mixed:=VG;have hw1:IntKind.i64.wrap ((i:Int)+1)=(i:Int)+1:=Bk
 have hb1:(0:Int)<=(i:Int)+1:=tf
 have hin:i<=n:=tf
 have htn:((i:Int)+1).toNat=i+1:=tf
 have hb2:¬(c=i+1):=tf
 have hb3:(i:Int)<=(n:Int)+1:=tf
 have hb4:¬(c=i):=tf
 have hcp1:∀ty dc sc,(Builtin.copy_ #[31,31] ty #[.slice (some ⟨b,off+(i+1),none⟩) (n - i) dc,.slice (some ⟨b,off+i,none⟩) (n+1 - i) sc]).run prog w.drew=.ok (goInt (cs.drop i).length) (w.drew.setCells b (off+(i+1)) (cs.drop i)):=λty dc sc=>
  run_copy_cells w.drew _ _ ty 22 b (off+(i+1)) (n - i) dc ⟨b,off+i,none⟩ (n+1 - i) sc (cs.drop i) Tryz.underlying31 hsz C3
   (λj u hj=>by rw[Addr.add_lit,oq];exact hcs (i+j) u (by rwa [rZ]at hj))
   (λj hj=>by rw[oq];exact hsp _ tf) (λj hj=>by rw[oq];exact hfz _ tf) (λu hu=>h1c u (Ii hu))
 obtain⟨W1,hW1⟩:∃W1,W1=w.drew.setCells b (off+(i+1)) (cs.drop i):=⟨_,rfl⟩
 have hsp1:∀k,k<n+1->(W1.cell? ⟨b,off+k,none⟩).isSome=true:=λk hk=>by
  rw[hW1];exact isSome_setCells b _ _ _ (λj hj=>by rw[oq];exact hsp _ tf) _ (hsp k hk)
 have hcp2:∀(W:World),(∀x,W.cell? x=W1.cell? x)->(∀x,W.frozen? x=W1.frozen? x)->∀ty dc,(Builtin.copy_ #[31,31] ty #[.slice (some ⟨b,off+i,none⟩) (n+1 - i) dc,.slice (some ⟨vb,vo,none⟩) 1 1]).run prog W=.ok (goInt [v].length) (W.setCells b (off+i) [v]):=λW hWc hWf ty dc=>
  run_copy_cells W _ _ ty 22 b (off+i) (n+1 - i) dc ⟨vb,vo,none⟩ 1 1 [v] Tryz.underlying31 hsz C4
   (λj u hj=>by
     match j,hj with
     |0,hj=>
      cases hj;rw[Addr.add_lit,hWc,hW1,Bv b _ _ _ _ (λh _=>absurd h hvb)];exact hv
     |j+1,hj=>simp at hj)
   (λj hj=>by have hj:j<1:=hj;rw[hWc,oq];exact hsp1 _ tf) (λj hj=>by have hj:j<1:=hj;rw[hWf,hW1,MU,oq];exact hfz _ tf) (λu hu=>by rw[bS.1 hu];exact h1v)
 rw[<- hW1]at hcp1
 go_enter Tryz.func108,Tryz.ntmps108
 go_wp2_with (simp only[hov])
 go_region_law_o (refine step_copy_runI rfl _ _ 31 31 rfl _ _ zj zj (hcp1 _ _ _) ?_)
 go_wp2_with (at_builtin;refine wpList_copy_runI _ rfl _ _ 31 31 rfl _ _ rfl rfl (hcp2 _ (λ_=>rfl) (λ_=>rfl) _ _) ?_)
 go_ret
 first|exact⟨rfl,rfl⟩|exact⟨rfl,by rw[hW1]⟩
set_option maxHeartbeats 4000000 in
set_option maxRecDepth 100000 in
def aqr(b off n c i vb vo:Nat)(cs:ae ah)(v:ah)(w:World)(hi:i<n)(hnc:n<=c)(hroom:c<n+1)(hbig:(n+1)*24<=140737488355328)(hcl:cs.length=n)
 (hcs:∀j u,cs[j]? =some u->w.cell? ⟨b,off+j,none⟩=some u) (hv:w.cell? ⟨vb,vo,none⟩=some v) (h1c:∀u∈cs,u.oneCell'=true) (h1v:v.oneCell'=true):
 Calls prog 108 #[.slice (some ⟨b,off,none⟩) n c,(Value.int .i64) i,.slice (some ⟨vb,vo,none⟩) 1 1] w λe w'=>
  e=.returned (.slice (some ⟨w.heap.size,0,none⟩) (n+1) (grownCap w (n+1) c 22))/\
  w'=(((w.alloc (.cells ((cs.take i).toArray++Builtin.zeroCells (Value.slice none 0 0).cells (n+1 - i)++Builtin.zeroCells (Value.slice none 0 0).cells (grownCap w (n+1) c 22 - (n+1))) 22)).drew.setCells w.heap.size i [v]).drew).setCells w.heap.size (i+1) (cs.drop i):=by
 have u0:=run_underlying Tryz.underlying0;have u3:=run_underlying Tryz.underlying3;have u4:=run_underlying Tryz.underlying4;have u22:=run_underlying Tryz.underlying22;have u31:=run_underlying Tryz.underlying31;have a0:=Tryz.isAgg0;have z0:=Tryz.sizeOf0;have v0:=Tryz.zeroValue0;have a3:=Tryz.isAgg3;have z3:=Tryz.sizeOf3;have v3:=Tryz.zeroValue3;have a4:=Tryz.isAgg4;have z4:=Tryz.sizeOf4;have v4:=Tryz.zeroValue4;have a22:=Tryz.isAgg22;have z22:=Tryz.sizeOf22;have v22:=Tryz.zeroValue22;have a31:=Tryz.isAgg31;have z31:=Tryz.sizeOf31;have v31:=Tryz.zeroValue31;have mixed:=VG;obtain⟨i0,hi0,hz0,hzs,hzb⟩:=info_parts acQ;have hz2:¬((i:Int)=(n:Int)):=tf
 have hz3:(c:Int)<(n:Int)+1:=tf
 have hsz:(prog.info? 22).map (·.size)=some 1:=by rw[hi0];simp[hzs]
 have hbw:b<w.heap.size:=block_lt_of_cell (hcs 0 _ (bY tf));have hvw:vb<w.heap.size:=block_lt_of_cell hv;have hkk:(n:Int)+1 - (i:Int)=((n+1 - i:Nat):Int):=tf
 have hik:i+(n+1 - i)=n+1:=tf
 have hold:(Builtin.firstCells i0.size i (.slice (some ⟨b,off,none⟩) i c)).run prog w.drew=.ok (cs.take i).toArray w.drew:=by
  rw[hzs];exact run_firstCells_some w.drew 1 i ⟨b,off,none⟩ i c (cs.take i) vA (λj u hj=>by
   rw[Addr.add_lit];rw[vZ]at hj;split at hj
   .exact hcs j u hj
   .cases hj)
 have hrz:∀ty,(Builtin.append_ #[31,3] ty #[.slice (some ⟨b,off,none⟩) i c,(Value.int .i64) ((n:Int)+1 - (i:Int))]).run prog w=
  .ok (.slice (some ⟨w.heap.size,0,none⟩) (n+1) (grownCap w (n+1) c 22)) (w.drew.alloc (.cells ((cs.take i).toArray++Builtin.zeroCells (Value.slice none 0 0).cells (n+1 - i)++Builtin.zeroCells (Value.slice none 0 0).cells (grownCap w (n+1) c 22 - (n+1))) 22)):=λty=>by
  have h:=Lib.run_append_grow_zeros w 31 3 ty 22 i0 _ .i64 .i64 Tryz.underlying31 Tryz.underlying3 hi0 hz0 (some ⟨b,off,none⟩) i c (cs.take i) hold (n+1 - i) tf tf tf tf (by rw[hzb];omega) (by rw[hzb,hik];exact growslice_fits hroom hbig);rw[hik]at h;rw[hkk];exact h
 obtain⟨G,hG⟩:∃G,G=grownCap w (n+1) c 22:=⟨_,rfl⟩
 obtain⟨ROW,hROW⟩:∃ROW:Array ah,ROW=(cs.take i).toArray++Builtin.zeroCells (Value.slice none 0 0).cells (n+1 - i)++Builtin.zeroCells (Value.slice none 0 0).cells (G - (n+1)):=⟨_,rfl⟩
 rw[<- hG]at hrz⊢;rw[<- hROW]at hrz⊢;have hRl:n+1<=ROW.size:=by
  rw[hROW];simp[Builtin.zeroCells,Value.cells];omega
 obtain⟨W1,hW1⟩:∃W1,W1=w.drew.alloc (.cells ROW 22):=⟨_,rfl⟩
 rw[<- hW1]at hrz;have hN:∀j,j<n+1->(W1.cell? ⟨w.heap.size,j,none⟩).isSome=true:=λj hj=>by
  rw[hW1,World.cell?_alloc_at (w:=w.drew) ROW _ w.heap.size j rfl,Array.getElem?_eq_getElem tf];rfl
 have hNf:∀j,W1.frozen? ⟨w.heap.size,j,none⟩=false:=λj=>by rw[hW1];exact World.frozen?_alloc_at (w:=w.drew) ROW _ w.heap.size j rfl
 have hOb:∀j u,w.cell? ⟨b,j,none⟩=some u->W1.cell? ⟨b,j,none⟩=some u:=λj u h=>by rw[hW1,World.cell?_alloc_past (w:=w.drew) _ b j hbw];exact h
 have hOv:∀j u,w.cell? ⟨vb,j,none⟩=some u->W1.cell? ⟨vb,j,none⟩=some u:=λj u h=>by rw[hW1,World.cell?_alloc_past (w:=w.drew) _ vb j hvw];exact h
 have hcpA:∀(W:World),(∀x,W.cell? x=W1.cell? x)->(∀x,W.frozen? x=W1.frozen? x)->∀ty dc,(Builtin.copy_ #[31,31] ty #[.slice (some ⟨w.heap.size,i,none⟩) (n+1 - i) dc,.slice (some ⟨vb,vo,none⟩) 1 1]).run prog W=.ok (goInt [v].length) (W.setCells w.heap.size i [v]):=λW hWc hWf ty dc=>
  run_copy_cells W _ _ ty 22 w.heap.size i (n+1 - i) dc ⟨vb,vo,none⟩ 1 1 [v] Tryz.underlying31 hsz C4
   (λj u hj=>by
     match j,hj with
     |0,hj=>
      cases hj;rw[Addr.add_lit,hWc];exact hOv _ _ hv
     |j+1,hj=>simp at hj)
   (λj hj=>by have hj:j<1:=hj;rw[hWc];exact hN _ tf) (λj hj=>by rw[hWf];exact hNf _) (λu hu=>by rw[bS.1 hu];exact h1v)
 have hGn:n+1<=G:=by rw[hG];exact grownCap_ge w _ _ _
 have hG63:G<=9223372036854775807:=by
  have:=grownCap_le_maxLen w (n+1) c 22 (by unfold maxLen;omega);rw[<- hG]at this;unfold maxLen at this;omega
 have hGi:¬(G=i):=tf
 have hGim:¬(G=i+1):=tf
 have hci:¬(c=i):=tf
 have hbN:b≠w.heap.size:=tf
 have hdl:(cs.drop i).length=n - i:=by rw[uT,hcl]
 have hcpB:∀(W:World),(∀x,W.cell? x=(W1.setCells w.heap.size i [v]).cell? x)->(∀x,W.frozen? x=(W1.setCells w.heap.size i [v]).frozen? x)->∀ty dc sc,(Builtin.copy_ #[31,31] ty #[.slice (some ⟨w.heap.size,i+1,none⟩) (n - i) dc,.slice (some ⟨b,off+i,none⟩) (n - i) sc]).run prog W=.ok (goInt (cs.drop i).length) (W.setCells w.heap.size (i+1) (cs.drop i)):=λW hWc hWf ty dc sc=>
  run_copy_cells W _ _ ty 22 w.heap.size (i+1) (n - i) dc ⟨b,off+i,none⟩ (n - i) sc (cs.drop i) Tryz.underlying31 hsz C3
   (λj u hj=>by
     rw[Addr.add_lit,hWc,Bv _ _ _ _ _ (λh _=>absurd h hbN),oq];exact hOb _ u (hcs (i+j) u (by rwa [rZ]at hj)))
   (λj hj=>by rw[hWc];exact isSome_setCells _ _ _ _ (λt ht=>hN _ (by have ht:t<1:=ht;omega)) _ (hN _ tf))
   (λj hj=>by rw[hWf,MU];exact hNf _) (λu hu=>h1c u (Ii hu))
 subst hW1;have hE1:∀x,((w.alloc (.cells ROW 22)).drew).cell? x=(w.drew.alloc (.cells ROW 22)).cell? x:=λx=>rfl;have hE2:∀x,((w.alloc (.cells ROW 22)).drew).frozen? x=(w.drew.alloc (.cells ROW 22)).frozen? x:=λx=>rfl;have hF1:∀x,(((w.alloc (.cells ROW 22)).drew.setCells w.heap.size i [v]).drew).cell? x=((w.drew.alloc (.cells ROW 22)).setCells w.heap.size i [v]).cell? x:=λx=>rfl;have hF2:∀x,(((w.alloc (.cells ROW 22)).drew.setCells w.heap.size i [v]).drew).frozen? x=((w.drew.alloc (.cells ROW 22)).setCells w.heap.size i [v]).frozen? x:=λx=>rfl;have hw1:IntKind.i64.wrap ((i:Int)+1)=(i:Int)+1:=Bk
 have hb1:(0:Int)<=(i:Int)+1:=tf
 have hin:i<=n:=tf
 have htn:((i:Int)+1).toNat=i+1:=tf
 have hb3:(i:Int)<=(n:Int):=tf
 clear hkk hik hold hROW hG hRl
 go_enter Tryz.func108,Tryz.ntmps108
 go_wp2_with (first
  |(at_builtin;refine Lib.wpList_append_run _ rfl _ _ _ _ rfl _ _ rfl rfl _ _ (hrz _) ?_)
  |(at_builtin;refine wpList_copy_runI _ rfl _ _ 31 31 rfl _ _ rfl rfl (hcpA _ hE1 hE2 _ _) ?_)
  |(at_builtin;refine wpList_copy_runI _ rfl _ _ 31 31 rfl _ _ rfl rfl (hcpB _ (λ_=>rfl) (λ_=>rfl) _ _ _) ?_))
 go_region_law_o (refine step_copy_runI rfl _ _ 31 31 rfl (.slice (some ⟨w.heap.size,i+1,none⟩) (n - i) (G - (i+1))) (.slice (some ⟨b,off+i,none⟩) (n - i) (c - i)) zj zj (hcpB _ hF1 hF2 3 (G - (i+1)) (c - i)) ?_)
 go_wp2
 go_ret
 exact⟨rfl,rfl⟩
open Go.Ideal Kd
variable{x:az}
def Bg{ρ:az->ah}{a:Int}(hx:ρ x=iV a)(h1: -2^63<a/\a<2^63):Pu prog ρ (.un .neg x) (iV (-a)):=λh=>by
 simp only[aK.run,hx];have hw:IntKind.i64.wrap (0 - a)= -a:=Bk
 have:kQ prog (Op.unary .neg (iV a))=some (iV (-a)):=by
  unfold kQ;have e:dR prog (Op.unary .neg (iV a))=some (iV (IntKind.i64.wrap (0 - a))):=rfl;rw[e,hw];rfl
 rw[this];rfl
def lg(p:Int×Int):Prop:= -1000<=p.1/\p.1<=1000/\ -1000<=p.2/\p.2<=1000
def rD(p:Int×Int):Prop:= -2000<=p.1/\p.1<=2000/\ -2000<=p.2/\p.2<=2000/\ -2000<=p.1+p.2/\p.1+p.2<=2000
variable{p:Int×Int}
def lg.q(h:lg p):rD p:=by unfold lg at h;unfold rD;omega
def Qc(p:Int×Int):Int×Int:=(-p.2,p.1+p.2)
def aqs(h:rD p):rD (Qc p):=by unfold rD at *;unfold Qc;(try dsimp only);omega
def Bh:Nat->Int×Int->Int×Int
 |0,p=>p
 |n+1,p=>Qc (Bh n p)
def Qd{p:Int×Int}(h:rD p):∀n,rD (Bh n p)
 |0=>h
 |n+1=>aqs (Qd h n)
def vQ(k:Nat)(p:Int×Int):Int×Int:=Bh (k%6) (if 6<=k then(p.2,p.1)else p)
def aqt(h:lg p)(k:Nat):rD (vQ k p):=by
 refine Qd ?_ _;unfold lg at h;split<;>(unfold rD;(try dsimp only);omega)
def Da:ae (Int×Int->Int×Int):=[λp=>p,λp=>(-p.1,p.2),λp=>(p.1, -p.2),λp=>(-p.1, -p.2),λp=>(p.2,p.1),λp=>(-p.2,p.1),λp=>(p.2, -p.1),λp=>(-p.2, -p.1)]
def kI(s:Int):ae (Int×Int->Int×Int):=if s=1 then Da else(List.range 12).map vQ
variable{f:Int×Int->Int×Int}{s:Int}
def aqu(hf:f∈kI s){p:Int×Int}(h:lg p):rD (f p):=by
 unfold kI at hf;split at hf
 .unfold Da at hf;unfold lg at h;simp only[dB,MV,or_false]at hf;rcases hf with rfl|rfl|rfl|rfl|rfl|rfl|rfl|rfl<;>(unfold rD;(try dsimp only);omega)
 .obtain⟨k,_,rfl⟩:=dM.1 hf;exact aqt h k
def acR(h:rD p):dF prog 263 [jg p] [] (jg (Qc p)):=by
 unfold rD at h;refine gB 263 λB w0=>?_;refine go ?_;intro b1 b2;refine go ?_;refine(cZ rfl rfl (Bg (a:=p.2) rfl tf)).h ?_;exact fQ
def aqv:dF prog 254 [jg p] [] (jg p):=by
 refine gB 254 λB w0=>?_;refine go ?_;intro b1 b2;exact fQ
def aqw:dF prog 258 [jg p] [] (jg (p.2,p.1)):=by
 refine gB 258 λB w0=>?_;refine go ?_;intro b1 b2;exact fQ
def aqx(h:lg p):dF prog 255 [jg p] [] (jg (-p.1,p.2)):=by
 unfold lg at h;refine gB 255 λB w0=>?_;refine go ?_;intro b1 b2;refine go ?_;refine(cZ rfl rfl (Bg (a:=p.1) rfl tf)).h ?_;exact fQ
def aqy(h:lg p):dF prog 256 [jg p] [] (jg (p.1, -p.2)):=by
 unfold lg at h;refine gB 256 λB w0=>?_;refine go ?_;intro b1 b2;refine go ?_;refine(cZ rfl rfl (Bg (a:=p.2) rfl tf)).h ?_;exact fQ
def aqz(h:lg p):dF prog 257 [jg p] [] (jg (-p.1, -p.2)):=by
 unfold lg at h;refine gB 257 λB w0=>?_;refine go ?_;intro b1 b2;refine go ?_;refine(cZ rfl rfl (Bg (a:=p.1) rfl tf)).h ?_;refine go ?_;refine(cZ rfl rfl (Bg (a:=p.2) rfl tf)).h ?_;exact fQ
def aqA(h:lg p):dF prog 259 [jg p] [] (jg (-p.2,p.1)):=by
 unfold lg at h;refine gB 259 λB w0=>?_;refine go ?_;intro b1 b2;refine go ?_;refine(cZ rfl rfl (Bg (a:=p.2) rfl tf)).h ?_;exact fQ
def aqB(h:lg p):dF prog 260 [jg p] [] (jg (p.2, -p.1)):=by
 unfold lg at h;refine gB 260 λB w0=>?_;refine go ?_;intro b1 b2;refine go ?_;refine(cZ rfl rfl (Bg (a:=p.1) rfl tf)).h ?_;exact fQ
def aqC(h:lg p):dF prog 261 [jg p] [] (jg (-p.2, -p.1)):=by
 unfold lg at h;refine gB 261 λB w0=>?_;refine go ?_;intro b1 b2;refine go ?_;refine(cZ rfl rfl (Bg (a:=p.2) rfl tf)).h ?_;refine go ?_;refine(cZ rfl rfl (Bg (a:=p.1) rfl tf)).h ?_;exact fQ
variable{b k:Nat}
def aqD(hk:k<12)(h:lg p):bG prog (.func 262) [jg p] [ptr' b] [] [dO b 0 [iV (k:Int)]] (λ_:Unit=>jg (vQ k p)) (λ_=>[]) (λ_=>[]) (λ_=>True):=by
 have hb:=h;unfold lg at hb;refine gB 262 λB w0=>?_;refine go ?_;intro b2 b3;refine go ?_;have er:((k:Int)).tmod 6=((k%6:Nat):Int):=by rw[BA tf];omega
 refine kW rfl ?_ ?_<;>intro h1
 .refine go ?_;refine(cZ (v:=iV ((k%6:Nat):Int)) rfl rfl DS).h ?_;refine go ?_;refine di (λi:Nat=>6 - i) (λi=>[(13,iV (i:Int))]) (λi=>[pt b2 (.cells [iV (Bh i (p.2,p.1)).1,iV (Bh i (p.2,p.1)).2])]) (λ_=>[]) (λi=>i<=k%6) 0 (bH _) (hk:=tj) (body:=?_);intro i hi;refine aC ?_ ?_<;>intro h2
  .refine gC (acR (p:=Bh i (p.2,p.1)) (Qd (by unfold rD;(try dsimp only);omega) i)) λ_ _=>?_;refine go ?_;exact aO (i+1) tf tf (hk:=tj)
  obtain rfl:i=k%6:=tf
  refine go ?_;exact fu () (hv:=by unfold vQ;rw[if_pos tf];rfl) (hp:=trivial)
 .refine go ?_;refine(cZ (v:=iV ((k%6:Nat):Int)) rfl rfl DS).h ?_;refine go ?_;refine di (λi:Nat=>6 - i) (λi=>[(13,iV (i:Int))]) (λi=>[pt b2 (.cells [iV (Bh i p).1,iV (Bh i p).2])]) (λ_=>[]) (λi=>i<=k%6) 0 (bH _) (hk:=tj) (body:=?_);intro i hi;refine aC ?_ ?_<;>intro h2
  .refine gC (acR (p:=Bh i p) (Qd h.q i)) λ_ _=>?_;refine go ?_;exact aO (i+1) tf tf (hk:=tj)
  obtain rfl:i=k%6:=tf
  refine go ?_;exact fu () (hv:=by unfold vQ;rw[if_neg tf];rfl) (hp:=trivial)
variable{g:bA}
def aqE(hg:eF g){x:Int}(hx:x∈g.cells):lg (jY g x):=by
 have hxb:=hg.cell x hx;have h2:=hg.make.wi;have hq:0<=x.tdiv g.w/\x.tdiv g.w<=x:=by
  exact kx
 have hr:0<=x.tmod g.w/\x.tmod g.w<=x:=by
  exact dy
 have hq2:0<=(x.tdiv g.w).tdiv 2/\(x.tdiv g.w).tdiv 2<=x.tdiv g.w:=by
  rw[su hq.1];omega
 unfold jY lg;split<;>(dsimp only;omega)
variable{vh vc:ah}
def aqF{x:Int}(hg:eF g)(hx:x∈g.cells):dF prog 192 [.agg ⟨iW g vh vc⟩,iV x] [] (jg (jY g x)):=by
 have hxb:=hg.cell x hx;have mW:=hg.make.wi;have hq:0<=x.tdiv g.w/\x.tdiv g.w<=x:=by
  exact kx
 have hr:0<=x.tmod g.w/\x.tmod g.w<=x:=by
  exact dy
 refine gB 192 λB w0=>?_;refine go ?_;intro b2 b4;refine go ?_;refine(cZ rfl rfl (Ea (a:=x) (b:=g.w) rfl rfl tf)).h ?_;refine go ?_;refine(cZ rfl rfl (D9 (a:=x) (b:=g.w) rfl rfl tf tf tf)).h ?_;refine aC ?_ ?_<;>intro h2
 .have hso:jY g x=(x.tmod g.w - (x.tdiv g.w).tdiv 2,x.tdiv g.w):=by unfold jY;rw[if_pos h2]
  have hq2:0<=(x.tdiv g.w).tdiv 2/\(x.tdiv g.w).tdiv 2<=x.tdiv g.w:=by
   rw[su hq.1];omega
  rw[hso];refine go ?_;refine(cZ rfl rfl (D9 (a:=x.tdiv g.w) (b:=2) rfl rfl tf tf tf)).h ?_;exact fQ
 .have hso:jY g x=(x.tmod g.w,x.tdiv g.w):=by unfold jY;rw[if_neg h2]
  rw[hso];exact fQ
def xk(c p:Int×Int):Int×Int:=(min c.1 p.1,min c.2 p.2)
def oM(l:ae (Int×Int)):Int×Int:=l.foldl xk (l.headD (0,0))
variable{l:ae (Int×Int)}{v:ah}
def acS(h0:0<l.length)(hl:l.length<2^63):fC prog 193 [v] [aj uC v l] (λ_:Unit=>jg (oM l)) (λ_=>True):=by
 refine gB 193 λB w0=>?_;refine gF uC v l λal cl el=>?_;subst el;refine go ?_;intro b2;refine gX uC (xs:=l) (k:=0) (h1:=h0) λ_ _ p (_:Unit) hp=>?_;have hhd:l.headD (0,0)=p:=by
  cases l with
  |nil=>cases hp
  |cons a l=>cases hp;rfl
 refine go ?_;intro b3;refine go ?_;refine di (λi:Nat=>l.length - i) (λi=>[(11,iV (i:Int))]) (λi=>[pt b3 (.cells [iV ((l.take i).foldl xk p).1,iV ((l.take i).foldl xk p).2])]) (λ_=>[]) (λi=>i<=l.length) 0 (bH _) (hk:=tj) (body:=?_);intro i hi;refine aC ?_ ?_<;>intro h2
 .refine gX uC (xs:=l) λ_ _ q (_:Unit) hq=>?_;refine go ?_;intro b5;refine go ?_;refine(cZ rfl rfl (Gr rfl rfl)).h ?_;refine go ?_;refine(cZ rfl rfl (Gr rfl rfl)).h ?_;refine go ?_;have e:(l.take (i+1)).foldl xk p=xk ((l.take i).foldl xk p) q:=by rw[bU hq,yU];rfl
  rw[show min ((l.take i).foldl xk p).1 q.1=((l.take (i+1)).foldl xk p).1 by rw[e];rfl,show min ((l.take i).foldl xk p).2 q.2=((l.take (i+1)).foldl xk p).2 by rw[e];rfl];exact ff
 obtain rfl:i=l.length:=tf
 refine go ?_;exact fu () (hv:=by unfold oM;rw[hhd,bP];rfl) (hp:=trivial)
def vR(p:Int×Int):Prop:= -2000<=p.1/\p.1<=2000/\ -2000<=p.2/\p.2<=2000
def rD.c(h:rD p):vR p:=by unfold rD at h;unfold vR;omega
def acT(h:∀p∈l,vR p):vR (oM l):=by
 have key:∀(l:ae (Int×Int)) (c:Int×Int),(∀p∈l,vR p)->vR c->vR (l.foldl xk c):=by
  intro l;induction l with
  |nil=>intro c _ h;exact h
  |cons x l ih=>
   intro c hl hc;rw[xC];refine ih _ (λp hp=>hl p (iw _ hp)) ?_;have:=hl x (fF ..);unfold vR at *;unfold xk;dsimp only;omega
 refine key l _ h ?_;cases l with
 |nil=>unfold vR;decide
 |cons a l=>exact h a (fF ..)
def aqG:∃fs:Array Field,prog.underlying 219=some (.struct fs)/\GD prog fs.toList 0 [true,true]=true:=by
 refine⟨prog.fieldsOf 219,th,th⟩
def acU:rM prog 219 jg where
 Em a:=by
  show tZ prog 219 (.agg ⟨[iV a.1,iV a.2]⟩)=true
  kernel_rfl
 find a aA es h:=by
  obtain⟨fs,hu,hrow⟩:=aqG;refine Tz hu (λa b=>rfl) (λa b=>?_) a aA es h;have:=ZG (P:=prog) (d:=9998) (t:=219) (xs:=[iV a.1,iV a.2]) (ys:=[iV b.1,iV b.2]) hu th (row_of hrow rfl rfl (λj=>by rw[gI]) (λj=>by rw[gI]));refine Eq.trans this ?_;congr 1;show(decide (a.1=b.1)&&(decide (a.2=b.2)&&true))=_;rw[Bool.and_true,<- Bool.decide_and];exact qx.2 ⟨λh=>Prod.ext h.1 h.2,λh=>by rw[h];exact⟨rfl,rfl⟩⟩
 same a:=by
  show((⟨[Value.int .i64 a.1,iV a.2]⟩:Array ah).size==(⟨[Value.int .i64 a.1,iV a.2]⟩:Array ah).size&&(List.zip [Value.int .i64 a.1,iV a.2] [Value.int .i64 a.1,iV a.2]).all λ(x,y)=>Instr.sameBits 9999 x y)=true;simp[Instr.sameBits]
def Hq(f:Int×Int->Int×Int)(v:ah):aM:=⟨λw=>∃fn cap Fx,v=.func fn ⟨[]⟩ ⟨cap⟩/\(∀p,lg p->bG prog fn [jg p] cap [] Fx (λ_:Unit=>jg (f p)) (λ_=>[]) (λ_=>[]) (λ_=>True))/\∀φ∈Fx,φ.p w,
 λa ⟨fn,cap,Fx,h1,h2,h3⟩=>⟨fn,cap,Fx,h1,h2,λφ hφ=>φ.mono a (h3 φ hφ)⟩⟩
def aqH{fn:Fn}{cap:ae ah}(h:lg p):bG prog fn [jg p] cap [] [Hq f (.func fn ⟨[]⟩ ⟨cap⟩)] (λ_:Unit=>jg (f p)) (λ_=>[]) (λ_=>[]) (λ_=>True):=λB w s=>by
 obtain⟨fn',cap',Fx,e,h1,h2⟩:=s.facts _ (bS.2 rfl);injection e with e1 e2 e3;injection e3 with e3;subst e1 e3;exact h1 p h B w ⟨s.agree,s.le,s.fZ,s.own,h2⟩
variable{B:ae Nat}{w0:Wd}{kl:ae OA}{F:ae aM}
def aqI{Q:IH->Prop}(h:∀fn cap,v=.func fn ⟨[]⟩ ⟨cap⟩->R Q B w0 kl F)(hf:Hq f v∈F:=by exact ic):R Q B w0 kl F:=λw s=>by
 obtain⟨fn,cap,Fx,e,_⟩:=s.facts _ hf;exact h fn cap e w s
def Db:Enc (Int×Int->Int×Int):=⟨1,ah,λ_ v=>[v],λf v=>[Hq f v],λ_ _=>rfl⟩
abbrev Bi(n:fI):ah:=.func (.func n) ⟨[]⟩ ⟨[]⟩
def sqV:ae ah:=[Bi 254,Bi 255,Bi 256,Bi 257,Bi 258,Bi 259,Bi 260,Bi 261]
def Dc{n:fI}(h:∀p,lg p->dF prog n [jg p] [] (jg (f p)))(w:Wd):(Hq f (Bi n)).p w:=⟨.func n,[],[],rfl,h,λφ hφ=>by cases hφ⟩
def aqJ(h:Da[k]? =some f):∃v,sqV[k]? =some v/\∀w,(Hq f v).p w:=by
 unfold Da at h;match k,h with
 |0,h=>injection h with h;subst h;exact⟨_,rfl,Dc λp hp=>aqv⟩
 |1,h=>injection h with h;subst h;exact⟨_,rfl,Dc λp hp=>aqx hp⟩
 |2,h=>injection h with h;subst h;exact⟨_,rfl,Dc λp hp=>aqy hp⟩
 |3,h=>injection h with h;subst h;exact⟨_,rfl,Dc λp hp=>aqz hp⟩
 |4,h=>injection h with h;subst h;exact⟨_,rfl,Dc λp hp=>aqw⟩
 |5,h=>injection h with h;subst h;exact⟨_,rfl,Dc λp hp=>aqA hp⟩
 |6,h=>injection h with h;subst h;exact⟨_,rfl,Dc λp hp=>aqB hp⟩
 |7,h=>injection h with h;subst h;exact⟨_,rfl,Dc λp hp=>aqC hp⟩
 |k+8,h=>cases h
def aqK:qV (pt b (.cells sqV)) [aj Db (.slice (some ⟨b,0,some 0⟩) 8 8) Da]:=by
 intro w w' S ⟨h1,h2⟩ hle hh hz g hg;rw[bS.1 hg];refine .inr ⟨b,0,0,8,_,⟨rfl,tr,.inl rfl⟩,⟨hz b wx,.inl vj⟩,λk f hk=>?_⟩;obtain⟨v,hv,hc⟩:=aqJ hk;refine⟨v,λj u hj=>?_,λφ hφ=>by rw[bS.1 hφ];exact hc w'⟩;match j,hj with
 |0,hj=>
  have hj:some v=some u:=hj;rw[show 0+k*Db.n+0=k by show 0+k*1+0=k;omega,hv,hj]
 |j+1,hj=>cases hj
def aqL:bG prog (.func 194) [iV s] [] [] [] (λv:ah=>v) (λ_=>[]) (λv=>[aj Db v (kI s)]) (λ_=>True):=by
 refine gB 194 λB w0=>?_;refine aC ?_ ?_<;>intro h1
 .refine go ?_;intro b3;refine go ?_;have hm:kI s=Da:=by unfold kI;rw[if_pos h1]
  rw[hm];refine(cZ (v:=.slice (some ⟨b3,0,some 0⟩) 8 8) rfl rfl (λh=>rfl)).h ?_;refine uy (aqK (b:=b3)) (hk:=Bm) (h:=?_);refine go ?_;exact gQ (.slice (some ⟨b3,0,some 0⟩) 8 8) trivial
 have hm:kI s=(List.range 12).map vQ:=by unfold kI;rw[if_neg h1]
 refine go ?_;refine gK Db ?_;refine di (λy:Nat×ah=>12 - y.1) (λy=>[(12,iV (y.1:Int)),(4,y.2)]) (λy=>[ap Db y.2 ((List.range y.1).map vQ)]) (λ_=>[]) (λy=>y.1<=12) (0,.slice none 0 0) (bH _) (hk:=tj) (body:=?_);rintro⟨k,v⟩ hk;dsimp only at hk⊢;refine aC ?_ ?_<;>intro h2
 .refine go ?_;intro b5;refine go ?_;intro b17;refine gP b5 ?_;refine fo (Hq (vQ k) (.func (.func 262) ⟨[]⟩ ⟨[ptr' b5]⟩)) (λw hw=>⟨_,_,[dO b5 0 [iV (k:Int)]],rfl,λp hp=>aqD tf hp,λφ hφ=>by rw[bS.1 hφ];exact hw _ (fF ..)⟩) ?_;refine fJ Db (v:=v) (xs:=(List.range k).map vQ) (vQ k) (.func (.func 262) ⟨[]⟩ ⟨[ptr' b5]⟩) (cs:=[.func (.func 262) ⟨[]⟩ ⟨[ptr' b5]⟩]) (hm:=yb) (next:=λv2=>?_);refine go ?_;rw[bC,tV,show(List.range k).map vQ++[vQ k]=(List.range (k+1)).map vQ by rw[Dv,ek];rfl];exact aO (k+1,.slice v2 (k+1) (k+1)) (by show 12 - (k+1)<12 - k;omega) (by show k+1<=12;omega)
 obtain rfl:k=12:=tf
 rw[hm];refine gZ gD ?_;refine go ?_;exact gQ v trivial
def De(l:ae (Int×Int)):ae ah:=dx uC (l.map λp=>(p,()))
def acW(n:Nat):zeros [iV 0,iV 0] n=De (List.replicate n (0,0)):=by
 induction n with
 |zero=>rfl
 |succ n ih=>
  show lX [iV 0,iV 0] (zeros [iV 0,iV 0] n)=_;rw[ih];rfl
def tC(l:ae (Int×Int))(n:Nat):ae (Int×Int):=l++List.replicate (n - l.length) (0,0)
variable{n:Nat}
def acX(h:l.length<=n):(tC l n).length=n:=by unfold tC;rw[fV,Du];omega
def acY{x:Int×Int}(h:l.length<n):(tC l n).set l.length x=tC (l++[x]) n:=by
 unfold tC;rw[Dr _ _ (bI _),tQ,show n - l.length=(n - (l++[x]).length)+1 by rw[fV,BD];omega,yT,iO];rfl
def acZ(h:l.length=n):tC l n=l:=by unfold tC;rw[h,tQ];exact iE l
def aqM{x:Int×Int}:De (l.set k x)=dx uC ((l.map λp=>(p,())).set k (x,())):=by unfold De;rw[wm];rfl
variable{y:az}{K:KO}{ds:ae Tmp}{rest:ae bW}{D:ae Deferred}{pm:ak FrameMode}{ro:ak Nat}
def ac0{kl':ae OA}{l:qr}{g:ak (Tmp×Bool)}{L:ae (Int×Int)}{o:Nat}(q:Int×Int)(hlt:k<L.length)(ho:o=k*2)
 (next:R (λh=>aJ prog ds rest (act n l D pm ro) h K) B w0 (pt b (.cells (De (L.set k q)))::kl') F)
 (hx:ev l x=.pointer (some ⟨b,o,none⟩):=by rfl) (hy:ev l y=jg q:=by rfl) (hk:aB (pt b (.cells (De L))) kl kl':=by exact dV) (hg:bV l g=true:=by rfl):
 R (λh=>aJ prog ds (⟨⟨none,g,.store 2 x y⟩,[]⟩::rest) (act n l D pm ro) h K) B w0 kl F:=by
 rw[aqM]at next
 exact alU uC (aD:=L.map λp=>(p,())) (k:=k) (o:=o) (m:=2) (q,()) (by rw[bC];exact hlt) ho next hx hy hk rfl hg
def ac3(h:l.length=n):qV (pt b (.cells (De l))) [aj uC (.slice (some ⟨b,0,some 0⟩) n n) l]:=by
 subst h;intro w w' S ⟨h1,h2⟩ hle hh hz g hg;rw[bS.1 hg];refine .inr ⟨b,0,0,_,_,⟨rfl,bI _,.inl rfl⟩,⟨hz b wx,.inl vj⟩,λk x hk=>⟨(),λj u hj=>?_,λf hf=>by cases hf⟩⟩;rw[gI];exact zu (p:=(x,())) (by rw[dZ,hk];rfl) hj
variable{d bytes:Nat}
def aqN{l:qr}{g:ak (Tmp×Bool)}{e:aF}{size:Nat}{zero:ae ah}(m:Nat)(hm:m*bytes<=1073741824/\m*size<=1073741824/\m<=1073741824)
 (next:∀b,R (λh=>aJ prog ds rest (act n ((d,.slice (some ⟨b,0,some 0⟩) 0 m)::l) D pm ro) h K) B w0 (pt b (.cells (zeros zero m))::kl) F)
 (hx:ev l x=iV (Int.ofNat 0):=by rfl) (hy:ev l y=iV (m:Int):=by rfl) (hn:Nat.blt d n=true:=by rfl) (hg:bV l g=true:=by rfl):
 R (λh=>aJ prog ds (⟨⟨some d,g,.xK e size bytes zero x y⟩,[]⟩::rest) (act n l D pm ro) h K) B w0 kl F:=λw s=>by
 have hle:∀{a b:Nat},a<=b->Nat.ble a b=true:=λh=>by rw[tN];exact h
 refine lJ hn hg (h':=w.h.new (.cells (zeros zero m))) (v:=.slice (some ⟨w.h.next,0,some 0⟩) 0 m) ?_ (next w.h.next (w.new _) (s.new _));simp only[aK.run,aK.alloc,hx,hy];show uf (cond (Nat.ble 0 m&&Nat.ble (Nat.mul m bytes) small&&Nat.ble (Nat.mul m size) small&&Nat.ble m small) _ none) w.h=_;rw[hle (bH m),hle (show Nat.mul m bytes<=small from hm.1),hle (show Nat.mul m size<=small from hm.2.1),hle (show m<=small from hm.2.2)];rfl
def aqO{k1 k2:ae OA}{l:qr}{g:ak (Tmp×Bool)}{e:aF}{b' m cap:Nat}{f:ak Nat}{s:az}(v y:ah)(cs1 cs2:ae ah)(h1:cs1.length=m)(hc:m+1<=cap)
 (hm:(m+1)*bytes<=1073741824/\m+1<=1073741824)
 (next:R (λh=>aJ prog ds rest (act n ((d,.slice (some ⟨b,0,f⟩) (m+1) cap)::l) D pm ro) h K) B w0 (pt b (.cells (cs1++v::cs2))::k2) F)
 (hs:ev l s=.slice (some ⟨b,0,f⟩) m cap:=by rfl) (hx:ev l x=.slice (some ⟨b',0,some 0⟩) 1 1:=by rfl) (hk:aB (pt b' (.cells [v])) kl k1:=by exact dV) (hk2:aB (pt b (.cells (cs1++y::cs2))) k1 k2:=by exact dV) (hn:Nat.blt d n=true:=by rfl) (hg:bV l g=true:=by rfl):
 R (λh=>aJ prog ds (⟨⟨some d,g,.append e 1 bytes s x⟩,[]⟩::rest) (act n l D pm ro) h K) B w0 kl F:=λw st=>by
 have hle:∀{a b:Nat},a<=b->Nat.ble a b=true:=λh=>by rw[tN];exact h
 have st1:=st.gz hk;have hb':w.h.get b'=some (.cells [v]):=st1.get.1;have st2:=st1.tail.gz hk2;have hlv:jE (cs1++y::cs2) cs1.length [v]=some (cs1++v::cs2):=by
  rw[Oy tg];rfl
 refine lJ hn hg (v:=.slice (some ⟨b,0,f⟩) (m+1) cap) (h':=w.h.set b (.cells (cs1++v::cs2))) ?_ (next ⟨w.h.set b _,w.z,λi hi=>w.l8 i hi⟩ st2.write);have e1:w.h.storeAt b (Nat.add 0 (Nat.mul m 1)) [v]=some (w.h.set b (.cells (cs1++v::cs2))):=by
  unfold IH.storeAt;simp only[st2.get.1];rw[show Nat.add 0 (Nat.mul m 1)=cs1.length by rw[h1];show 0+m*1=m;omega,hlv]
 have r1:qb (.slice (some ⟨b',0,some 0⟩) 1 1)=some 1:=rfl;have r2:yZ 1 1 (.slice (some ⟨b',0,some 0⟩) 1 1) w.h=some [v]:=by
  show w.h.iK b' 0 (1*1)=some [v];unfold IH.iK;simp only[hb'];rfl
 simp only[aK.run,hx,hs,r1,r2,z8];show cond (Nat.ble (Nat.mul (m+1) bytes) small&&Nat.ble (Nat.mul (m+1) 1) small&&Nat.ble (m+1) small) (cond (Nat.ble (m+1) cap) (match w.h.storeAt b (Nat.add 0 (Nat.mul m 1)) [v]with|some h=>some (Value.slice (some ⟨b,0,f⟩) (m+1) cap,h)|none=>none) _) none=_;rw[hle (show Nat.mul (m+1) bytes<=small from hm.1),hle (show Nat.mul (m+1) 1<=small by show(m+1)*1<=1073741824;omega),hle (show m+1<=small from hm.2),hle hc,e1];rfl
def xm(p c:Int×Int):Int×Int:=(p.1 - c.1,p.2 - c.2)
def ik(g:bA):ae (Int×Int):=g.cells.map (jY g)
def rU(zR:ae (Int×Int))(low:Int×Int)(k:Nat):ae ((Int×Int)×ah):=((zR.zipIdx).take k).foldl (λm q=>upd (xm q.1 low) (iV (q.2:Int)) m) []
def Hr(m:ae ((Int×Int)×ah))(a:Int×Int):ak Int:=match dG a m with
 |some (.int .i64 i)=>some i
 |_=>none
def uM(g:bA)(f:Int×Int->Int×Int):ak (ae Int):=
 let to:=(ik g).map f
 let l:=to.filterMap λp=>Hr (rU (ik g) (oM (ik g)) g.cells.length) (xm p (oM to))
 if l.length=to.length then some l else none
def uN(g:bA):ae (ae Int):=(kI g.shape).filterMap (uM g)
variable{low:Int×Int}{zR:ae (Int×Int)}
def aqP:∀k,∀p∈rU zR low k,∃i:Nat,p.2=iV (i:Int):=by
 intro k;unfold rU;have key:∀(l:ae ((Int×Int)×Nat)) (m:ae ((Int×Int)×ah)),(∀p∈m,∃i:Nat,p.2=iV (i:Int))->∀p∈l.foldl (λm q=>upd (xm q.1 low) (iV (q.2:Int)) m) m,∃i:Nat,p.2=iV (i:Int):=by
  intro l;induction l with
  |nil=>intro m h;exact h
  |cons q l ih=>
   intro m h;rw[xC];refine ih _ λp hp=>?_;have hu:∀(m:ae ((Int×Int)×ah)),(∀p∈m,∃i:Nat,p.2=iV (i:Int))->∀p∈upd (xm q.1 low) (iV (q.2:Int)) m,∃i:Nat,p.2=iV (i:Int):=by
    intro m;induction m with
    |nil=>intro _ p hp;rw[bS.1 hp];exact⟨_,rfl⟩
    |cons c m ihm=>
     intro h p hp;obtain⟨c1,c2⟩:=c;unfold upd at hp;split at hp
     .rcases dB.1 hp with rfl|hp
      .exact⟨_,rfl⟩
      .exact h p (iw _ hp)
     .rcases dB.1 hp with rfl|hp
      .exact h _ (fF ..)
      .exact ihm (λp hp=>h p (iw _ hp)) p hp
   exact hu m h p hp
 exact key _ [] (λp hp=>by cases hp)
variable{a:Int×Int}
def aqR{m:ae ((Int×Int)×ah)}(h:dG a m=some v):∃b,(b,v)∈m:=by
 induction m with
 |nil=>cases h
 |cons c m ih=>
  obtain⟨c1,c2⟩:=c;unfold dG at h;split at h
  .cases h;exact⟨_,fF ..⟩
  .obtain⟨b,hb⟩:=ih h;exact⟨b,iw _ hb⟩
def aqS:(∃i:Nat,Hr (rU zR low k) a=some (i:Int)/\jX true (iV 0) a (rU zR low k)=.tuple #[iV (i:Int),.bool true])\/(Hr (rU zR low k) a=none/\jX true (iV 0) a (rU zR low k)=.tuple #[iV 0,.bool false]):=by
 unfold Hr jX;cases h:dG a (rU zR low k)with
 |none=>exact .inr ⟨rfl,rfl⟩
 |some v=>
  left;obtain⟨b,hb⟩:=aqR h;obtain⟨i,hi⟩:=aqP k _ hb;dsimp only at hi;subst hi;exact⟨i,rfl,rfl⟩
def ac4{α:Type}{a b c:ae α}(h:aH a b c):∀k:ae α,aH (k++a) (k++b) c
 |[]=>h
 |x::k=>.cons .here (ac4 h k)
def aqT{bg:Nat}(hg:eF g):TD prog (λy:ah×ae Int=>[y.1]) (λy=>[aj ai y.1 y.2]) (.func 191) [] [ptr' bg] [dO bg 0 (iW g vh vc),aj ai vc g.cells] (λxs=>xs.map (·.2)=uN g):=by
 intro S inv ok step s0 zq y1 y2 F' h0 hok hy;dsimp only[List.cons_append,List.nil_append];have hcl:g.cells.length<=256:=hg.len;have hcp:0<g.cells.length:=aaT hg;refine gB 191 λB w0=>?_;refine gF ai vc g.cells λac cc ec=>?_;subst ec;refine go ?_;refine ym g.cells.length ⟨tf,tf,tf⟩ λbm=>?_;rw[acW];refine go ?_;refine di (λi=>g.cells.length - i) (λi:Nat=>[(28,iV (i:Int))]) (λi=>[pt bm (.cells (De (tC ((ik g).take i) g.cells.length)))]) (λ_=>[]) (λi=>i<=g.cells.length) 0 (bH _) (hk:=tj) (body:=?_);intro i hi;refine aC ?_ ?_<;>intro h1
 .refine go ?_;intro _ _ x hx;refine gC (aqF (g:=g) (vh:=vh) (vc:=.slice ac g.cells.length cc) (x:=x) hg (aU hx)) λ_ _=>?_;refine go ?_;have hfi:((ik g).take i).length=i:=by unfold ik;rw[gM,bC];omega
  have hfx:(ik g)[i]? =some (jY g x):=by unfold ik;rw[dZ,hx];rfl
  refine ac0 (L:=tC ((ik g).take i) g.cells.length) (k:=i) (o:=0+i*2) (jY g x) (by rw[acX tf];omega) tf ?_;have hst:(tC ((ik g).take i) g.cells.length).set i (jY g x)=tC ((ik g).take (i+1)) g.cells.length:=by
   have:=acY (l:=(ik g).take i) (n:=g.cells.length) (x:=jY g x) tf;rw[hfi]at this;rw[this,bU hfx]
  rw[hst];refine go ?_;exact ff
 obtain rfl:i=g.cells.length:=tf
 have hfl:(ik g).length=g.cells.length:=by unfold ik;rw[bC]
 rw[oQ tf,acZ hfl];refine gZ (ac3 hfl) ?_;generalize(some (⟨bm,0,some 0⟩:Addr))=am;refine gC (acS (l:=ik g) tf tf) λ_ _=>?_;refine go ?_;intro b6;refine go ?_;have hsb:∀p∈ik g,lg p:=λp hp=>by
  obtain⟨x,hx,rfl⟩:=dM.1 hp;exact aqE hg hx
 have hlow:=acT (l:=ik g) (λp hp=>(hsb p hp).q.c);unfold vR at hlow;refine yu jg (λb7=>?_);refine go ?_;refine di (λi=>g.cells.length - i) (λi:Nat=>[(45,iV (i:Int))]) (λi=>[gW jg b7 (rU (ik g) (oM (ik g)) i)]) (λ_=>[]) (λi=>i<=g.cells.length) 0 (bH _) (hk:=tj) (body:=?_);intro i hi;refine aC ?_ ?_<;>intro h1
 .refine gX uC (xs:=ik g) λ_ _ p (_:Unit) hp=>?_;have hpb:=(hsb p (aU hp))
  unfold lg at hpb;refine go ?_;intro b9;refine go ?_;refine vD acU (xm p (oM (ik g))) ?_ (ha:=rfl);have hz:(ik g).zipIdx[i]? =some (p,i):=by rw[Q8,hp];simp
  have hat:upd (xm p (oM (ik g))) (iV (i:Int)) (rU (ik g) (oM (ik g)) i)=rU (ik g) (oM (ik g)) (i+1):=by
   unfold rU;rw[bU hz,yU];rfl
  rw[hat];refine go ?_;exact ff
 obtain rfl:i=g.cells.length:=tf
 refine gZ En ?_;refine gC (aqL (s:=g.shape)) λvm _=>?_;refine gF Db vm (kI g.shape) λamp cmp emp=>?_;subst emp;have hml:(kI g.shape).length<=12:=by unfold kI;split<;>simp[Da]
 refine go ?_;refine di (λy:Nat×ae (ah×ae Int)×S=>(kI g.shape).length - y.1) (λy=>[(68,iV (y.1:Int))]) (λy=>inv y.2.2) (λ_=>[]) (λy=>y.1<=(kI g.shape).length/\ok y.2.1 y.2.2/\y.2.1.map (·.2)=((kI g.shape).take y.1).filterMap (uM g)/\∀rest,jG step s0 (y.2.1++rest)=jG step y.2.2 rest) (0,[],s0) ⟨bH _,h0,rfl,λ_=>rfl⟩ (body:=?_);rintro⟨j,ig,zS⟩ ⟨hj,hos,KW,hrun⟩;dsimp only at hj hos KW hrun⊢;refine aC ?_ ?_<;>intro h1
 rotate_left
 .have hr2:=hrun [];rw[iE]at hr2;refine go ?_;exact gQ ig (by show ig.map (·.2)=uN g;rw[KW,oQ tf];rfl) (hk:=by rw[hr2];exact aH.self _ _)
 refine gX Db (xs:=kI g.shape) λ_ _ f (vf:ah) hf=>?_;have hfm:=aU hf;have hdr:(kI g.shape).drop j=f::(kI g.shape).drop (j+1):=by
  obtain⟨h2,h3⟩:=bJ.1 hf;rw[<- h3];exact qp h2
 refine aqI (f:=f) (v:=vf) (λfn cap ef=>?_);subst ef;refine go ?_;refine ym g.cells.length ⟨tf,tf,tf⟩ λbt=>?_;rw[acW];refine go ?_;have htl:((ik g).map f).length=g.cells.length:=by rw[bC,hfl]
 refine di (λi=>g.cells.length - i) (λi:Nat=>[(77,iV (i:Int))]) (λi=>[pt bt (.cells (De (tC (((ik g).map f).take i) g.cells.length)))]) (λ_=>[]) (λi=>i<=g.cells.length) 0 (bH _) (hk:=tj) (body:=?_);intro i hi;refine aC ?_ ?_<;>intro h2
 .refine gX uC (xs:=ik g) λ_ _ p (_:Unit) hp=>?_;refine go ?_;intro b14;refine gC (aqH (f:=f) (fn:=fn) (cap:=cap) (p:=p) (hsb p (aU hp))) λ_ _=>?_;refine go ?_;have hfi:(((ik g).map f).take i).length=i:=by rw[gM];omega
  have hfx:((ik g).map f)[i]? =some (f p):=by rw[dZ,hp];rfl
  refine ac0 (L:=tC (((ik g).map f).take i) g.cells.length) (k:=i) (o:=0+i*2) (f p) (by rw[acX tf];omega) tf ?_;have hst:(tC (((ik g).map f).take i) g.cells.length).set i (f p)=tC (((ik g).map f).take (i+1)) g.cells.length:=by
   have:=acY (l:=((ik g).map f).take i) (n:=g.cells.length) (x:=f p) tf;rw[hfi]at this;rw[this,bU hfx]
  rw[hst];refine go ?_;exact ff
 obtain rfl:i=g.cells.length:=tf
 rw[oQ tf,acZ htl];refine gZ (ac3 htl) ?_;generalize(some (⟨bt,0,some 0⟩:Addr))=at_;refine go ?_;have htb:∀p∈(ik g).map f,vR p:=λp hp=>by
  obtain⟨q,hq,rfl⟩:=dM.1 hp;exact(aqu hfm (hsb q hq)).c
 have hct:=acT htb;unfold vR at hct;refine fD (acS (l:=(ik g).map f) tf tf) (next:=λ_ _=>?_);refine go ?_;intro b15;refine go ?_;refine aqN g.cells.length ⟨tf,tf,tf⟩ λbl=>?_;rw[Hf];refine go ?_;generalize hto:(ik g).map f=to at *;generalize hφ:(λp=>Hr (rU (ik g) (oM (ik g)) g.cells.length) (xm p (oM to)))=φ;have hfe:uM g f=if(to.filterMap φ).length=to.length then some (to.filterMap φ)else none:=by
  unfold uM;dsimp only;rw[hto,hφ]
 refine di (λi=>g.cells.length - i) (λi:Nat=>[(96,iV (i:Int)),(16,.slice (some ⟨bl,0,some 0⟩) ((to.take i).filterMap φ).length g.cells.length)]) (λi=>[pt bl (.cells ((iP ((to.take i).filterMap φ) g.cells.length).map iV))]) (λ_=>[]) (λi=>i<=g.cells.length) 0 (bH _) (hk:=tj) (body:=?_);intro i hi;have hle:((to.take i).filterMap φ).length<=i:=lV (WG ..) vA;refine aC ?_ ?_<;>intro h3
 .refine gX uC (xs:=to) λ_ _ p (_:Unit) hp=>?_;have hpb:=htb p (aU hp);unfold vR at hpb;refine go ?_;intro b18;refine go ?_;refine Tt acU (xm p (oM to)) ?_ (ha:=rfl);have hφp:φ p=Hr (rU (ik g) (oM (ik g)) g.cells.length) (xm p (oM to)):=by rw[<- hφ]
  have htk:(to.take (i+1)).filterMap φ=(to.take i).filterMap φ++(match φ p with|some x=>[x]|none=>[]):=by
   rw[bU hp,Q7];congr 1;rw[WM];cases φ p<;>rfl
  rcases aqS (zR:=ik g) (low:=oM (ik g)) (a:=xm p (oM to)) (k:=g.cells.length)with⟨x,e1,e2⟩|⟨e1,e2⟩
  .rw[<- hφp]at e1;rw[e1]at htk;rw[show jX true (iV 0) (xm p (oM to)) (rU (ik g) (oM (ik g)) g.cells.length)=.tuple #[iV (x:Int),.bool true]from e2];refine go ?_;intro b19;have aqU:(iP ((to.take i).filterMap φ) g.cells.length).map (Value.int .i64)=((to.take i).filterMap φ).map iV++iV 0::(List.replicate (g.cells.length - ((to.take i).filterMap φ).length - 1) 0).map iV:=by
    unfold iP;rw[show g.cells.length - ((to.take i).filterMap φ).length=(g.cells.length - ((to.take i).filterMap φ).length - 1)+1 by omega,yT,ek,kv];rfl
   rw[aqU];refine aqO (b:=bl) (b':=b19) (m:=((to.take i).filterMap φ).length) (cap:=g.cells.length) (f:=some 0) (iV (x:Int)) (iV 0) (((to.take i).filterMap φ).map iV) ((List.replicate (g.cells.length - ((to.take i).filterMap φ).length - 1) 0).map iV) (by rw[bC]) tf ⟨tf,tf⟩ ?_;have aqV:((to.take i).filterMap φ).map (Value.int .i64)++iV (x:Int)::(List.replicate (g.cells.length - ((to.take i).filterMap φ).length - 1) 0).map iV=(iP ((to.take (i+1)).filterMap φ) g.cells.length).map iV:=by
    rw[htk];unfold iP;rw[ek,ek,iO,fV,BD,Nat.sub_sub];rfl
   have hpl:((to.take i).filterMap φ).length+1=((to.take (i+1)).filterMap φ).length:=by rw[htk,fV];rfl
   rw[aqV,hpl];refine go ?_;exact ff
  .rw[<- hφp]at e1;rw[e1]at htk;rw[show jX true (iV 0) (xm p (oM to)) (rU (ik g) (oM (ik g)) g.cells.length)=.tuple #[iV 0,.bool false]from e2];refine go ?_;rw[iE]at htk;rw[<- htk];exact ff
 obtain rfl:i=g.cells.length:=tf
 rw[oQ tf]at hle⊢;generalize hls:to.filterMap φ=ls at *;refine go ?_;by_cases hL:((ls.length:Int)=(g.cells.length:Int))
 .rw[dQ hL];have hln:ls.length=g.cells.length:=by omega
  rw[ET hln];refine gZ (zm (b:=bl) (f:=0) (c:=g.cells.length) (xs:=ls) (hc:=tf)) ?_;have Qe:uM g f=some ls:=by rw[hfe,if_pos tf]
  generalize F3:((.slice (some ⟨bl,0,some 0⟩) ls.length g.cells.length,ls):ah×ae Int)=yy;have hX:(ig++yy::(((kI g.shape).drop (j+1)).filterMap (uM g)).map λq=>((.slice none 0 0:ah),q)).map (·.2)=uN g:=by
   have hy2:yy.2=ls:=by rw[<- F3]
   have e1:uN g=((kI g.shape).take j).filterMap (uM g)++((kI g.shape).drop j).filterMap (uM g):=by
    rw[<- Q7,si];rfl
   rw[e1,hdr,WM,Qe,ek,KW,kv,sj,hy2];congr 2;exact(Ih _).symm▸rfl
  have uI:=hy ig zS yy _ hos hX;dsimp only at uI;rw[show yy.1=.slice (some ⟨bl,0,some 0⟩) ls.length g.cells.length by rw[<- F3],show yy.2=ls by rw[<- F3]]at uI;rw[fB,dP]at uI;refine gC uI λ_ _=>?_;cases hst:(step zS yy).2 with
  |true=>
   have hs1:step zS yy=((step zS yy).1,true):=Prod.ext rfl hst;refine go ?_;refine aO (j+1,ig++[yy],(step zS yy).1) C6 ⟨by show j+1<=_;omega,hok _ zS _ _ hos hX hst,?_,λrest=>?_⟩ (hk:=ac4 (.cons (.there .here) .nil) _)
   .show(ig++[yy]).map (·.2)=((kI g.shape).take (j+1)).filterMap (uM g);rw[bU hf,Q7,ek,KW,WM,Qe,ww,show yy.2=ls by rw[<- F3]];rfl
   .show jG step s0 (ig++[yy]++rest)=_;rw[iO,hrun];show jG step zS (yy::rest)=_;rw[jG,hs1]
  |false=>
   have hs1:step zS yy=((step zS yy).1,false):=Prod.ext rfl hst;have hr:=hrun (yy::(((kI g.shape).drop (j+1)).filterMap (uM g)).map λq=>((.slice none 0 0:ah),q));rw[jG,hs1]at hr;dsimp only at hr;refine go ?_;exact gQ (ig++yy::(((kI g.shape).drop (j+1)).filterMap (uM g)).map λq=>((.slice none 0 0:ah),q)) hX (hk:=by rw[hr];first|exact aH.all _|exact aH.self _ _)
 .rw[aW hL];have Qe:uM g f=none:=by rw[hfe,if_neg tf]
  refine go ?_;refine aO (j+1,ig,zS) C6 ⟨by show j+1<=_;omega,hos,?_,hrun⟩;show ig.map (·.2)=((kI g.shape).take (j+1)).filterMap (uM g);rw[bU hf,Q7,KW,WM,Qe];exact(iE _).symm
def aqW:bG prog (.func 105) [.agg ⟨iW g vh vc⟩] [] [] [] (λb:Nat=>.func (.func 191) #[] #[ptr' b]) (λ_=>[]) (λb=>[dO b 0 (iW g vh vc)]) (λ_=>True):=by
 refine gB 105 λB w0=>?_;refine go ?_;intro b1;refine gP b1 ?_;refine go ?_;exact gQ b1 trivial
