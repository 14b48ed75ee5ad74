/-
  The law on the ideal machine.
-/
import Derived.Test.YtoohgkkmdnbnfaaGreatDoorLawPA
import Derived.Test.YtoohgkkmdnbnfaaGreatDoorLibVA
set_option linter.all false
set_option maxRecDepth 10000
set_option maxHeartbeats 8000000
namespace Go.Proofs.YtoohgkkmdnbnfaaGreatDoor
open Go.Ideal Kd Canon Gph
theorem aiF{k:bS}(hK:fT k)(h16:k.grid.cells.length<=16):∀l∈k.lists,l.length<=96:=by
 rw[hK.lists];refine ads hK.bU ?_ (λr hr=>(hK.typ.Ao r hr).1.2);rw[<- hK.grid];exact h16
theorem Jv{k:bS}{p:List Clue}(hK:fT k)(h16:k.grid.cells.length<=16):(jg k p).length<=4096:=adt (aiF hK h16) hK.typ.lim.u
theorem VT{x:Int}:∀{l:List Int} {i j:Nat},l.count x=1->l[i]? =some x->l[j]? =some x->i=j
 |[],i,j,h,_,_=>by simp at h
 |a::l,0,0,_,_,_=>rfl
 |a::l,0,j+1,h,hi,hj=>by
  have ha:a=x:=by simpa using hi
  have hx:x∈l:=bG (show l[j]? =some x by simpa using hj);have:=OE.2 hx;rw[ha,List.count_cons_self]at h;omega
 |a::l,i+1,0,h,hi,hj=>by
  have ha:a=x:=by simpa using hj
  have hx:x∈l:=bG (show l[i]? =some x by simpa using hi);have:=OE.2 hx;rw[ha,List.count_cons_self]at h;omega
 |a::l,i+1,j+1,h,hi,hj=>by
  have hi:l[i]? =some x:=by simpa using hi
  have hj:l[j]? =some x:=by simpa using hj
  have hx:=OE.2 (bG hi);rw[List.count_cons]at h;have:l.count x=1:=by split at h<;>omega
  rw[VT this hi hj]
theorem aiG{p:List Clue}{n:Nat}(hn:n<p.length)(i:Nat):(p.take n++p.drop (n+1))[i]? =p[if i<n then i else i+1]?:=by
 have hl:(p.take n).length=n:=by rw[gM];omega
 by_cases h:i<n
 ·rw[if_pos h,kJ (by omega),pE,if_pos h]
 ·rw[if_neg h,lX (by omega),mX,hl];congr 1;omega
theorem Og{k:bS}{p:List Clue}{n:Nat}(hn:n<p.length)(h:iK k p):iK k (p.take n++p.drop (n+1)):=by
 refine⟨?_,λg hg=>h.right g (IW hg),λi a b ha hb=>?_⟩
 ·have:=h.len;rw[fA,gM,mK];omega
 ·rw[aiG hn]at ha hb;by_cases h1:i+1<n
  ·rw[if_pos (by omega)]at ha;rw[if_pos h1]at hb;exact h.sorted i a b ha hb
  ·rw[if_neg h1]at hb;by_cases h2:i<n
   ·rw[if_pos h2]at ha;exact Ab h 1 i a b ha hb
   ·rw[if_neg h2]at ha;exact h.sorted (i+1) a b ha hb
theorem VU{k:bS}{p:List Clue}{n:Nat}{g:Clue}(hK:fT k)(hQ:iK k p)(hg:p[n]? =some g):
 ∃A own B j r,jg k p=A++own::B/\jg k (p.take n++p.drop (n+1))=A++B/\own.rule=((j:Nat):Int)/\own.at_=g.at_/\k.decl.rules[j]? =some r/\r.aG=g.aG:=by
 have hn:=(bO.1 hg).1;obtain⟨c,l,c0,c1,c2,a0,a1,_⟩:=hQ.right g (bG hg);obtain⟨h1,_⟩:=hK.typ.form.jv _ c c1;have hcl:((g.aG.toNat:Nat):Int)=g.aG:=Int.toNat_of_nonneg c0;rw[hcl]at h1;have hm:=OE.1 (show 0<(k.decl.rules.map (·.aG)).count g.aG by omega);obtain⟨r,hrm,hrc⟩:=fo.1 hm;obtain⟨j,hr⟩:=lH hrm;have Cj:∀(i:Nat) r',k.decl.rules[i]? =some r'->r'.aG=g.aG->i=j:=λi r' h2 h3=>
  VT h1 (by rw[eZ,h2];exact congrArg some h3) (by rw[eZ,hr];exact congrArg some hrc)
 have hf:=hK.rf hrm;obtain⟨hkd,c',d1,d2,_⟩:=hf.cl (by omega);rw[hrc,c1]at d1;cases d1;obtain⟨A,own,B,e1,e2,e3,e4⟩:=alone hQ (Og hn hQ) hg hr hrc Cj c0 (by unfold iU;rw[if_neg (by omega)]) (by rw[<- d2];exact c2) a0 a1;exact⟨A,own,B,j,r,e1,e2,e3,e4,hr,hrc⟩
theorem VV{k:bS}(hK:fT k):∀(p:List Clue),iK k p->(jg k p).length=(jg k []).length+p.length
 |[],_=>rfl
 |g::q,hQ=>by
  obtain⟨A,own,B,j,r,e1,e2,_⟩:=VU (n:=0) (g:=g) hK hQ rfl;have h2:=Og (n:=0) (by simp) hQ;have e3:(g::q).take 0++(g::q).drop (0+1)=q:=rfl;rw[e3]at e2 h2;have:=VV hK q h2;rw[e1,fA,nK,nK];rw[e2,fA]at this;omega
theorem aiH(n:Int):IntKind.u64.wrap n=((n%18446744073709551616).toNat:Int):=by
 show(let m:=n%(2^64:Int);if false&&m>=(2^63:Int)then m - (2^64:Int)else m)=_;simp only[Bool.false_and,sF,if_false];rw[show((2:Int)^64)=18446744073709551616 from rfl];have:=Int.emod_nonneg n (show(18446744073709551616:Int)≠0 by decide);omega
theorem Jw{k:bS}{p:List Clue}{y:F8}(hK:fT k)(hQ:iK k p)(h16:k.grid.cells.length<=16)(h:F9 k p y):y.e=0/\y.ok=true:=by
 have:=h.ok hK hQ (Jv hK h16);exact⟨this,h.eq.2 this⟩
theorem aiI{A B:List iG}{own c:iG}(h:(A++own::B)[A.length]? =some c):c=own:=by
 rw[lX (bJ _),xe]at h;exact(Option.some.inj h).symm
theorem aiJ(A B:List iG)(own:iG):(A++own::B).take A.length++(A++own::B).drop (A.length+1)=A++B:=by
 rw[List.take_left' rfl,show A++own::B=(A++[own])++B by simp,List.drop_left' (by simp)]
abbrev CC:=iG×gX.Y
theorem VW{P:Prop}(h:P:=by
 subst VX;refine go ?_;refine bz gX (xs:=A++own::B) (next:=λ_ _ c (vy:Value×Value) hc=>?_);obtain rfl:=aiI hc;refine go ?_;intro b17 b18;refine go ?_;intro aiK;refine go ?_;refine Rm gX (xs:=A++c::B) A.length (by simp) (next:=λa1 c1=>?_);refine go ?_;refine Rn gX (xs:=A++c::B) (A.length+1) (by simp) (next:=λa2 c2=>?_) (hlo:=rfl);refine go ?_;refine zU gX (.slice a1 A.length c1) (xs:=(A++c::B).take A.length) λy1 e1=>?_;refine zU gX (.slice a2 ((A++c::B).length - (A.length+1)) c2) (xs:=(A++c::B).drop (A.length+1)) λy2 e2=>?_;refine Fa (E:=gX) (v:=.slice a1 A.length c1) (az:=y1) ?_;refine Fa (E:=gX) (v:=.slice a2 ((A++c::B).length - (A.length+1)) c2) (az:=y2) ?_;have l1:y1.length=A.length:=by rw[<- bR (f:=λp:CC=>p.1),e1,List.take_left' rfl]
 have l2:y2.length=B.length:=by rw[<- bR (f:=λp:CC=>p.1),e2,mK];omega
 refine SN (b:=aiK) (f:=0) (m:=0) gX [] y1 rfl (.inl rfl) ⟨by omega,by omega,by omega⟩ (λb5 f5 m5 VY hf5=>?_) (hk:=ay.here);rw[bX]at VY⊢;refine go ?_;refine SN (b:=b5) (f:=f5) (m:=m5) gX y1 y2 VY hf5 ⟨by omega,by omega,by omega⟩ (λb6 f6 m6 hm6 hf6=>?_);have hmap:(y1++y2).map (·.1)=A++B:=by rw[dW,e1,e2];exact aiJ A B c
 subst hm6;rw[show bV gX (y1++y2)=bV gX (y1++y2)++[]from(gy _).symm];refine acv gX (az:=y1++y2) hf6 (bJ _) ?_ (λw hw=>?_)
 rotate_left
 ·intro q hq f hf;rcases dV.1 hq with hq|hq
  ·exact hw (p9 gX y1) (by simp) q hq f hf
  ·exact hw (p9 gX y2) (by simp) q hq f hf
 rw[hmap];refine go ?_;refine ax (VP (q:=⟨(k.grid.cells.length:Int),(k.decl.symbols.length:Int),wQ k,k.bn,A++B⟩) (vv:=wv) (vn:=vn) (vc:=.slice (some ⟨b6,0,some f6⟩) (y1++y2).length (y1++y2).length) (wv:=wv4) (wn:=vn) (wc:=.slice aw4 (A++B).length cw4) hvl hnb.1 hnb.2 (by show(A++B).length<_;omega) VZ) (next:=λ_ _=>?_);refine go ?_;refine bz eF (xs:=p) (next:=λ_ _ g' (vg:Value) hg'=>?_);cases hg.symm.trans hg';refine go ?_;first|with_reducible refine aN (λz1=>?_) (λz1=>?_)|with_reducible refine aM (λz1=>?_) (λz1=>?_)|with_reducible refine aL (λz1=>?_) (λz1=>?_)
 ·exact absurd hoa z1
 refine go ?_;first|with_reducible refine aN (λz2=>?_) (λz2=>?_)|with_reducible refine aM (λz2=>?_) (λz2=>?_)|with_reducible refine aL (λz2=>?_) (λz2=>?_)
 ·omega
 refine go ?_;first|with_reducible refine aN (λz3=>?_) (λz3=>?_)|with_reducible refine aM (λz3=>?_) (λz3=>?_)|with_reducible refine aL (λz3=>?_) (λz3=>?_)
 ·omega
 refine go ?_;rw[hor];refine bz aY (xs:=k.decl.rules) (next:=λ_ _ r' (w:Value×Value) hr'=>?_);cases hr.symm.trans hr';refine go ?_;refine bz eF (xs:=p) (next:=λ_ _ g'' (vg2:Value) hg''=>?_);cases hg.symm.trans hg'';refine go ?_;refine ae () (hv:=?_) (hp:=trivial);rw[dZ hrc];rfl):P:=h
instance {n:Nat}:OfNat Operand n:=⟨.tmp n⟩
abbrev Wg (n:Int):=Operand.const (.int .i64 n)
abbrev Zs:=Wg 0
abbrev ZD:=Wg 1
abbrev Wb:=Operand.const (.bool true)
abbrev Ys:=Operand.const (.bool false)
abbrev Xs:Value:=.int .i64 0
abbrev Wa:Value:=.slice none 0 0
abbrev XS:=[Xs,Xs,Wa,Wa,Wa]
abbrev Z2 (f:Nat) (l:List Operand):aB:=.call (.func f) l
abbrev WP (x:Operand):aB:=.bin .neq 41 x Zs
abbrev WF (n:Nat) (e:aB):bT:=⟨⟨some n,none,e⟩,[]⟩
abbrev X1 (n:Nat) (x:Operand):=WF n (.mv x)
abbrev Z3 (n:Nat) (x:Operand) (i:Nat):=WF n (.extract x i)
abbrev Wc (n c:Nat) (e:aB):bT:=⟨⟨some n,some ⟨c,false⟩,e⟩,[]⟩
abbrev Wf (n c:Nat) (e:aB):bT:=⟨⟨some n,some ⟨c,true⟩,e⟩,[]⟩
abbrev Wk (e:aB):bT:=⟨⟨none,none,e⟩,[]⟩
abbrev Wr (l:List bT):dx:=.ops (l.filterMap λx=>x.s.dst) l
abbrev WD (l:List bT) (c:dx):dx:=.seq (Wr l) c
abbrev X2 (x:Operand) (l:List bT):dx:=.cond x (WD l .ret) .skip
noncomputable def ZS:gN:=⟨194,[.tmp 6],(WD [WF 3 (.box 0 34),WF 4 (.box 1 37),WF 6 (.jc Ys)] (.seq (WD [WF 19 (Z2 10 []),WF 20 (.un .not 19)] (X2 20 [WF 6 (.jc Ys)])) (.seq (WD [WF 21 (.pF 17 3),WF 22 (.pF 1 4),WF 23 (Z2 11 [21,22]),WF 24 (.un .not 23),X1 25 24,Wc 26 25 (.pF 17 3),Wc 27 25 (Z2 30 [26]),Wc 28 25 (WP 27),WF 29 (.pick 25 Wb 28)] (X2 29 [WF 6 (.jc Wb)])) (WD [WF 31 (.pF 17 3),WF 32 (.pF 1 4),WF 33 (Z2 21 [31,32]),X1 30 33,Z3 34 30 0,Z3 35 30 1,WF 7 (.new XS 51),Wk (.store 5 7 34),WF 8 (.jc 35)] (WD [WF 37 (.pF 17 3),WF 38 (.build [Wa] []),WF 39 (Z2 21 [37,38]),X1 36 39,Z3 40 36 0,Z3 41 36 1,WF 9 (.new XS 51),Wk (.store 5 9 40),WF 10 (.jc 41)] (.seq (WD [X1 42 8,WF 43 (WP 42)] (X2 43 [X1 44 8,WF 45 (.bin .eql 41 44 (Wg 190)),X1 46 45,Wf 47 46 (.fK 4 7),Wf 48 46 (.gK 47),Wf 49 46 (.pG 48),Wf 50 46 (.bin .eql 3 49 Zs),WF 51 (.pick 46 50 Ys),WF 6 (.jc 51)])) (.seq (WD [X1 52 10,WF 53 (WP 52),X1 54 53,Wc 55 54 (.fK 4 7),Wc 56 54 (.gK 55),Wc 57 54 (.pG 56),Wc 58 54 (.fK 4 9),Wc 59 54 (.gK 58),Wc 60 54 (.pG 59),Wc 61 54 (.fK 0 4),Wc 62 54 (.gK 61),Wc 63 54 (.pG 62),Wc 64 54 (.bin .add 3 60 63),Wc 65 54 (.bin .neq 3 57 64),WF 66 (.pick 54 Wb 65)] (X2 66 [WF 6 (.jc Ys)])) (.seq (WD [WF 67 (.fK 0 4),WF 68 (.gK 67),WF 69 (.pG 68),WF 70 (.bin .eql 3 69 Zs)] (X2 70 [WF 71 (.pF 5 7),WF 72 (.pF 5 9),WF 73 (Z2 23 [71,72]),WF 6 (.jc 73)])) (WD [X1 74 2,WF 75 (.conv 3 63 74),WF 76 (.fK 0 4),WF 77 (.gK 76),WF 78 (.pG 77),WF 79 (.conv 3 63 78),WF 80 (.bin .rem 63 75 79),WF 81 (.conv 63 3 80),WF 11 (.jc 81)] (WD [WF 83 (.pF 1 4),X1 84 11,WF 85 (Z2 13 [83,84]),X1 82 85,Z3 86 82 0,Z3 87 82 1,WF 12 (.new [Wa] 37),Wk (.store 1 12 86),WF 13 (.jc 87)] (WD [WF 89 (.pF 17 3),WF 90 (.pF 1 12),WF 91 (Z2 21 [89,90]),X1 88 91,Z3 92 88 0,Z3 93 88 1,WF 14 (.new XS 51),Wk (.store 5 14 92),WF 15 (.jc 93)] (.seq (WD [X1 94 13,WF 95 (WP 94),X1 96 95,Wc 97 96 (.mv 15),Wc 98 96 (WP 97),WF 99 (.pick 96 Wb 98),X1 100 99,Wc 101 100 (.fK 4 14),Wc 102 100 (.gK 101),Wc 103 100 (.pG 102),Wc 104 100 (.bin .add 3 103 ZD),Wc 105 100 (.fK 4 7),Wc 106 100 (.gK 105),Wc 107 100 (.pG 106),Wc 108 100 (.bin .neq 3 104 107),WF 109 (.pick 100 Wb 108)] (X2 109 [WF 6 (.jc Ys)])) (WD [WF 16 (.jc Zs)] (.seq (.block 0 (.loop (.seq (WD [X1 110 16,WF 111 (.fK 4 14),WF 112 (.gK 111),WF 113 (.pG 112),WF 114 (.bin .lss 3 110 113),X1 115 114,Wf 116 115 (.fK 4 14),Wf 117 115 (.gK 116),Wf 118 115 (.mv 16),Wf 119 115 (.lY 9 117 118),Wf 120 115 (.pF 9 119),Wf 121 115 (.fK 4 7),Wf 122 115 (.gK 121),Wf 123 115 (.mv 16),Wf 124 115 (.lY 9 122 123),Wf 125 115 (.pF 9 124),Wf 126 115 (Z2 31 [120,125]),WF 127 (.pick 115 126 Ys)] (.cond 127 .skip (.exit 0))) (.block 1 (Wr [X1 128 16,WF 129 (.bin .add 3 128 ZD),WF 16 (.jc 129)]))))) (WD [WF 130 (.fK 4 7),WF 131 (.gK 130),X1 132 16,WF 133 (.lY 9 131 132),WF 134 (.pF 9 133),WF 17 (.new [Xs,Wa,Xs,Xs,Xs,Xs,Wa,Xs,Xs] 68),Wk (.store 9 17 134)] (WD [WF 135 (.pF 5 7),WF 18 (.new XS 51),Wk (.store 5 18 135)] (.seq (.ops [136,137,138,139,140,141,142,143,144,145,146,147,148] [WF 136 (.vo 68 0 [] []),WF 137 (.fK 4 7),WF 138 (.gK 137),X1 139 16,WF 140 (.vw 9 138 none (some 139) none),WF 142 (.fK 4 7),WF 143 (.gK 142),X1 144 16,WF 145 (.bin .add 3 144 ZD),WF 146 (.vw 9 143 (some 145) none none),⟨⟨(some 141),none,(.append 68 9 104 136 140)⟩,[⟨(some 143),none,(.gK 142)⟩]⟩,WF 147 (.append 68 9 104 141 146),WF 148 (.fK 4 18),Wk (.store 1 148 147)]) (WD [WF 149 (.pF 5 18),WF 150 (.pF 5 14),WF 151 (Z2 23 [149,150]),X1 152 151,Wf 153 152 (.fK 8 17),Wf 154 152 (.gK 153),Wf 155 152 (.fK 0 4),Wf 156 152 (.gK 155),Wf 157 152 (.mv 11),Wf 158 152 (.lY 3 156 157),Wf 159 152 (.fK 1 158),Wf 160 152 (.gK 159),Wf 161 152 (.bin .eql 3 154 160),WF 162 (.pick 152 161 Ys),X1 163 162,Wf 164 163 (.fK 7 17),Wf 165 163 (.gK 164),Wf 166 163 (.bin .geq 3 165 Zs),WF 167 (.pick 163 166 Ys),X1 168 167,Wf 169 168 (.fK 7 17),Wf 170 168 (.gK 169),Wf 171 168 (.fK 0 3),Wf 172 168 (.fK 9 171),Wf 173 168 (.gK 172),Wf 174 168 (.pG 173),Wf 175 168 (.bin .lss 3 170 174),WF 176 (.pick 168 175 Ys),X1 177 176,Wf 178 177 (.fK 0 3),Wf 179 177 (.fK 9 178),Wf 180 177 (.gK 179),Wf 181 177 (.fK 7 17),Wf 182 177 (.gK 181),Wf 183 177 (.lY 12 180 182),Wf 184 177 (.fK 11 183),Wf 185 177 (.gK 184),Wf 186 177 (.fK 0 4),Wf 187 177 (.gK 186),Wf 188 177 (.mv 11),Wf 189 177 (.lY 3 187 188),Wf 190 177 (.fK 0 189),Wf 191 177 (.gK 190),Wf 192 177 (.bin .eql 3 185 191),WF 193 (.pick 177 192 Ys),WF 6 (.jc 193)] .ret))))))))))))))))))⟩
theorem Z1:(nN Tryz.prog pQ pR).F 8=some ZS:=by kernel_rfl
theorem aiR{k:bS}{p:List Clue}{at_:Int}{vh vs vr vc vu gh gc vn vl vp:Value}(hB:Cz k)(hP:Au p)(hat:jU at_):
 dz Tryz.prog 8 [.agg ⟨mG k vh vs vr vc vu gh gc vn vl⟩,.agg ⟨[vp]⟩,.int .i64 at_] (Il 6::ah eF vp p::nI k vh vs vr vc vu gh gc vn vl []) (.bool true):=by
 refine aK ZS Z1 λB0 w0=>?_;dsimp only[nI];refine go ?_;intro b3 b4;refine go ?_;refine ax ae6 (next:=λ_ _=>?_);refine go ?_;refine ax (agv (k:=k) (p:=p) (vh:=vh) (vs:=vs) (vr:=vr) (vc:=vc) (vu:=vu) (gh:=gh) (gc:=gc) (vn:=vn) (vl:=vl) (vp:=vp) hB hP.len) (next:=λb hb=>?_);cases b with
 |false=>
  refine go ?_;exact ae () (hv:=rfl) (hp:=trivial)
 |true=>
 obtain⟨hfk,h16,hpl,hpv⟩:=hb rfl;clear hb;have hS:=qg.ofE hB hfk;refine go ?_;refine ax (ahO (k:=k) (vh:=vh) (vs:=vs) (vr:=vr) (vc:=vc) (vu:=vu) (gh:=gh) (gc:=gc) (vn:=vn) (vl:=vl) hS) (next:=λb hb=>?_);cases b with
 |false=>
  dsimp only[cond];refine go ?_;exact ae () (hv:=rfl) (hp:=trivial)
 |true=>
 have hK:=hb.1 rfl;clear hb;have hN:iK k []:=⟨by simp,by simp,by simp⟩
 have V3:Au []:=⟨by simp,by simp⟩
 dsimp only[cond];refine go ?_;refine ax (Jt (k:=k) (p:=p) (vh:=vh) (vs:=vs) (vr:=vr) (vc:=vc) (vu:=vu) (gh:=gh) (gc:=gc) (vn:=vn) (vl:=vl) (vp:=vp) hS hP) (next:=λy hy=>?_);obtain⟨ok,e,wv,wc⟩:=y;refine VG (ah eF (.slice none 0 0) []) (aiC _) ?_;cases ok with
 |false=>
  have he:e=190:=by
   by_cases hQ:iK k p
   ·have:=(Jw hK hQ h16 hy).2;cases this
   ·exact hy.np hK hQ
  subst he;dsimp only[cond,CQ,CP,List.nil_append];refine go ?_;intro b7;refine go ?_;refine ax (Jt (k:=k) (p:=[]) (vh:=vh) (vs:=vs) (vr:=vr) (vc:=vc) (vu:=vu) (gh:=gh) (gc:=gc) (vn:=vn) (vl:=vl) (vp:=.slice none 0 0) hS V3) (next:=λy2 hy2=>?_);obtain⟨ok2,e2,wv2,V4⟩:=y2;obtain⟨t1,t2⟩:=Jw hK hN h16 hy2;dsimp only at t1 t2;subst t1 t2;dsimp only[cond,CQ,CP,List.cons_append,List.nil_append];refine go ?_;intro b9;refine go ?_;exact ae () (hv:=rfl) (hp:=trivial)
 |true=>
 have he:e=0:=hy.eq.1 rfl;subst he;have hQ:iK k p:=Classical.byContradiction λh=>by have:=hy.np hK h;cases this
 have hL:=Jv (p:=p) hK h16;have hL0:=Jv (p:=[]) hK h16;have hcnt:=VV hK p hQ;have hsl:=hK.typ.lim.s1;have hnb:=hS.bn;have hvl:(wQ k).length<=1000000:=by unfold wQ;rw[bR];omega
 have hsh:=aiE hK hQ;dsimp only[cond,CQ,CP,List.cons_append,List.nil_append];refine aS (E:=gX) (v:=wc) (xs:=jg k p) (by simp) λaw cw ew=>?_;subst ew;refine aS (E:=eF) (v:=vp) (xs:=p) (by simp) λNK cp ep=>?_;subst ep;refine aS (E:=aY) (v:=vu) (xs:=k.decl.rules) (by simp) λau cu eu=>?_;subst eu;refine go ?_;intro b7;refine go ?_;refine ax (Jt (k:=k) (p:=[]) (vh:=vh) (vs:=vs) (vr:=vr) (vc:=vc) (vu:=.slice au k.decl.rules.length cu) (gh:=gh) (gc:=gc) (vn:=vn) (vl:=vl) (vp:=.slice none 0 0) hS V3) (next:=λy2 hy2=>?_);obtain⟨ok2,e2,wv2,V4⟩:=y2;obtain⟨t1,t2⟩:=Jw hK hN h16 hy2;dsimp only at t1 t2;subst t1 t2;dsimp only[cond,CQ,CP,List.cons_append,List.nil_append];refine aS (E:=gX) (v:=V4) (xs:=jg k []) (by simp) λaw2 cw2 ew2=>?_;subst ew2;refine go ?_;intro b9;refine go ?_;refine aA rfl (λh1=>?_) (λh1=>?_)
 ·omega
 refine go ?_;refine aA rfl (λh2=>?_) (λh2=>?_)
 ·have hp0:p=[]:=ji.1 (by omega);subst hp0;refine go ?_;refine ax (VP (q:=⟨(k.grid.cells.length:Int),(k.decl.symbols.length:Int),wQ k,k.bn,jg k []⟩) (vv:=wv) (vn:=vn) (vc:=.slice aw (jg k []).length cw) (wv:=wv2) (wn:=vn) (wc:=.slice aw2 (jg k []).length cw2) hvl hnb.1 hnb.2 (by show(jg k []).length<_;omega) hsh) (next:=λ_ _=>?_);refine go ?_;exact ae () (hv:=rfl) (hp:=trivial)
 have hx0:0<p.length:=by omega
 generalize hn:(at_%18446744073709551616).toNat%p.length=n;have hnl:n<p.length:=by rw[<- hn];exact CV _ hx0
 refine go ?_;refine(eD rfl rfl (yo (k:=.u64) (m:=((at_%18446744073709551616).toNat:Int)) (by kernel_rfl:Tryz.prog.underlying 3=some (.int .i64)) (by kernel_rfl) rfl (aiH at_))).h ?_;refine go ?_;refine(eD rfl rfl (yo (k:=.u64) (m:=(p.length:Int)) (by kernel_rfl:Tryz.prog.underlying 3=some (.int .i64)) (by kernel_rfl) rfl (Mf (by omega)))).h ?_;refine go ?_;refine(eD rfl rfl (acw rfl rfl hx0)).h ?_;rw[hn];refine go ?_;refine(eD rfl rfl (yo (k:=.i64) (m:=(n:Int)) (by kernel_rfl:Tryz.prog.underlying 63=some (.int .u64)) (by kernel_rfl) rfl (wrapN (by omega)))).h ?_;refine go ?_;obtain⟨g,hg⟩:∃g,p[n]? =some g:=⟨_,cB hnl⟩
 obtain⟨A,own,B,j,r,hA,hA2,hor,hoa,hr,hrc⟩:=VU hK hQ hg;have hjl:=(bO.1 hr).1;have hpw:=adl k p;have hQ2:=Og hnl hQ;have hP2:Au (p.take n++p.drop (n+1)):=⟨by rw[fA,gM,mK];omega,λg hg=>hP.vals g (IW hg)⟩
 have hL2:=Jv (p:=p.take n++p.drop (n+1)) hK h16;rw[hA]at hpw hL hcnt hsh;rw[hA2]at hL2;have VZ:∀c∈A++B,Ga c:=λc hc=>hsh c (by rcases dV.1 hc with h|h;exact jP _ h;exact mJ _ (cO _ h));have hLA:(A++own::B).length=A.length+B.length+1:=by rw[fA,nK];omega
 have hLB:(A++B).length=A.length+B.length:=fA;refine ax (ahQ (p:=p) (at_:=(n:Int)) (vp:=.slice NK p.length cp) (by omega)) (next:=λy3 hy3=>?_);obtain⟨v3,e3⟩:=y3;have hy3:e3=0:=hy3.eq.trans (if_pos (by omega));subst hy3;dsimp only;rw[show CJ p (n:Int) 0=p.take n++p.drop (n+1)from rfl];refine go ?_;intro b12;refine go ?_;refine ax (Jt (k:=k) (p:=p.take n++p.drop (n+1)) (vh:=vh) (vs:=vs) (vr:=vr) (vc:=vc) (vu:=.slice au k.decl.rules.length cu) (gh:=gh) (gc:=gc) (vn:=vn) (vl:=vl) (vp:=v3) hS hP2) (next:=λy4 hy4=>?_);obtain⟨ok4,e4,wv4,wc4⟩:=y4;obtain⟨t1,t2⟩:=Jw hK hQ2 h16 hy4;dsimp only at t1 t2;subst t1 t2;dsimp only[cond,CQ,CP,List.cons_append,List.nil_append];rw[hA,hA2];refine aS (E:=gX) (v:=wc4) (xs:=A++B) (by simp) λaw4 cw4 ew4=>?_;subst ew4;refine go ?_;intro b14;refine go ?_;refine aA rfl (λh3=>?_) (λh3=>?_)
 ·omega
 refine go ?_;refine aZ (λm:Nat=>(A++B).length - m) (λm=>[(16,.int .i64 (m:Int))]) (λ_=>[]) (λ_=>[]) (λm=>m<=(A++B).length/\∀i,i<m->(A++B)[i]? =(A++own::B)[i]?) 0 ⟨cz _,λi hi=>by omega⟩ (body:=?_);rintro m ⟨hm,hsame⟩;have hml:m<(A++own::B).length:=by omega
 refine go ?_;first|with_reducible refine aN (λg1=>?_) (λg1=>?_)|with_reducible refine aM (λg1=>?_) (λg1=>?_)|with_reducible refine aL (λg1=>?_) (λg1=>?_)
 ·have VX:m=A.length:=TQ hpw m hsame hm (.inl (by omega));exact VW
 refine go ?_;refine bz gX (xs:=A++B) (next:=λ_ _ x (vx:Value×Value) hx=>?_);refine go ?_;refine bz gX (xs:=A++own::B) (next:=λ_ _ y (vy:Value×Value) hy=>?_);refine go ?_;refine ax (VO (a:=x) (b:=y) (v1:=vx.1) (v2:=vx.2) (u1:=vy.1) (u2:=vy.2) (VZ x (bG hx)) (hsh y (bG hy))) (next:=λr2 hr2=>?_);cases r2 with
 |false=>
  have hne:x≠y:=λe=>by have:=hr2.2 e;cases this
  have VX:m=A.length:=TQ hpw m hsame hm (.inr (by rw[hx,hy];exact λe=>hne (Option.some.inj e)));exact VW
 |true=>
  refine go ?_;refine aQ (m+1) (by show(A++B).length - (m+1)<(A++B).length - m;omega) ⟨by omega,λi hi=>?_⟩;by_cases e:i=m
  ·subst e;rw[hx,hy,hr2.1 rfl]
  ·exact hsame i (by omega)
