/-
  The parts of a program.
-/
import Derived.Test.YtjmgkllpcidhjaaGreatDoorLibAE
set_option linter.all false
set_option maxRecDepth 10000
set_option maxHeartbeats 4000000
namespace Go.Proofs.YtjmgkllpcidhjaaGreatDoor
open Go.Ideal Rk
noncomputable def La:dS:=⟨205,[(.cell1 2),(.tmp 3)],(.seq (kO [kS 2 (.new [vS] 106),kS 3 (.aN kF)]) (.seq (kO [kS 4 (.aN (.func 100))]) (.seq (kO [kS 5 (.aN (.func 104))]) (.seq (kO [kM 13 4,⟨⟨(some 14),none,(.call 13 [(.const (.string ⟨⟨[43]⟩⟩))])⟩,[]⟩,kM 15 4,⟨⟨(some 16),none,(.call 15 [(.const (.string ⟨⟨[45]⟩⟩))])⟩,[]⟩,kM 17 4,⟨⟨(some 18),none,(.call 17 [(.const (.string ⟨⟨[42]⟩⟩))])⟩,[]⟩,kM 19 4,⟨⟨(some 20),none,(.call 19 [(.const (.string ⟨⟨[47]⟩⟩))])⟩,[]⟩,kM 21 5,⟨⟨(some 22),none,(.call 21 [(.const (.string ⟨⟨[109,105,110]⟩⟩))])⟩,[]⟩,kM 23 5,⟨⟨(some 24),none,(.call 23 [(.const (.string ⟨⟨[109,97,120]⟩⟩))])⟩,[]⟩,⟨⟨(some 25),none,(.build [.nilFunc,.nilFunc,.nilFunc,.nilFunc,.nilFunc,.nilFunc,.nilFunc,.nilFunc,.nilFunc,.nilFunc] [⟨3,⟨1,14⟩⟩,⟨4,⟨1,16⟩⟩,⟨5,⟨1,18⟩⟩,⟨6,⟨1,20⟩⟩,⟨7,⟨1,22⟩⟩,⟨8,⟨1,24⟩⟩,⟨9,⟨1,(.func 107)⟩⟩])⟩,[]⟩,kS 6 (.new [.nilFunc,.nilFunc,.nilFunc,.nilFunc,.nilFunc,.nilFunc,.nilFunc,.nilFunc,.nilFunc,.nilFunc] 138),kN (.store 10 6 25)]) (.seq (kO [kS 26 (.ww (.func 108) [] [2]),kS 7 (.aN 26)]) (.seq (.seq (kO [kM 27 0,kS 28 (.gp 27),kS 29 (.mv (kI 0))]) (.block 0 (.loop (.seq (kO [kS 30 (.bin .lss 3 29 28)]) (.seq (.cond 30 .skip (.exit 0)) (.seq (.block 1 (.seq (kO [kS 31 (.dM 2 27 29),kS 32 (.jF 2 31),kS 9 (.new [vI,vI] 83),kN (.store 2 9 32)]) (.block 2 (.seq (kO [kS 34 (.bH 0 9),kS 35 (.aB 34),kS 36 (.bin .eql 3 35 (kI 1)),kM 37 36,kG 38 37 (.bH 1 9),kG 39 37 (.aB 38),kG 40 37 (.bin .geq 3 39 (kI 0)),kS 41 (.pick 37 40 kF),kM 42 41,kG 43 42 (.bH 1 9),kG 44 42 (.aB 43),kG 45 42 (.bin .leq 3 44 (kI 1048576)),kS 46 (.pick 42 45 kF),kS 33 (.aN 46)]) (.cond 33 (kO [kS 47 (.aB 2),kS 48 (.bH 1 9),kS 49 (.aB 48),⟨⟨(some 50),none,(.build [vI,vE,vI,vI] [⟨0,⟨1,(kI 2)⟩⟩,⟨2,⟨1,49⟩⟩])⟩,[]⟩,⟨⟨(some 51),none,(.cu 135 1 [vI,vE,vI,vI] [⟨0,⟨4,50⟩⟩])⟩,[]⟩,⟨⟨(some 52),none,(.build [vS,(.bool false)] [⟨0,⟨1,51⟩⟩])⟩,[]⟩,⟨⟨(some 53),none,(.cu 112 1 [vS,(.bool false)] [⟨0,⟨2,52⟩⟩])⟩,[]⟩,kS 54 (.append 112 2 32 47 53),kN (.store 1 2 54)]) (.seq (.ops [56,57,58,59,60,61,62,63,64,65,66,67,68,69,70,55] [kS 56 (.bH 0 9),kS 57 (.aB 56),kS 58 (.bin .eql 3 57 (kI 2)),kM 59 58,kG 60 59 (.bH 1 9),kG 61 59 (.aB 60),kG 62 59 (.bin .geq 3 61 (kI 0)),kS 63 (.pick 59 62 kF),kM 64 63,kG 65 64 (.bH 1 9),kG 66 64 (.aB 65),⟨⟨(some 67),(some ⟨64,true⟩),(kC 69 [])⟩,[⟨(some 66),(some ⟨64,true⟩),(.aB 65)⟩]⟩,kG 68 64 (.gp 67),kG 69 64 (.bin .lss 3 66 68),kS 70 (.pick 64 69 kF),kS 55 (.aN 70)]) (.cond 55 (.ops [71,72,73,74,75,76,77,78,79,80] [kS 71 (.aB 2),kS 73 (.bH 1 9),kS 74 (.aB 73),⟨⟨(some 72),none,(kC 69 [])⟩,[⟨(some 74),none,(.aB 73)⟩,⟨(some 71),none,(.aB 2)⟩]⟩,kS 75 (.dM 1 72 74),kS 76 (.aB 75),⟨⟨(some 77),none,(kC 106 [76])⟩,[⟨(some 71),none,(.aB 2)⟩]⟩,⟨⟨(some 78),none,(.build [vS,(.bool false)] [⟨0,⟨1,77⟩⟩])⟩,[]⟩,⟨⟨(some 79),none,(.cu 112 1 [vS,(.bool false)] [⟨0,⟨2,78⟩⟩])⟩,[]⟩,kS 80 (.append 112 2 32 71 79),kN (.store 1 2 80)]) (.seq (kO [kS 82 (.bH 0 9),kS 83 (.aB 82),kS 84 (.bin .eql 3 83 (kI 10)),kM 85 84,kG 86 85 (.bH 1 9),kG 87 85 (.aB 86),kG 88 85 (.bin .eql 3 87 (kI 0)),kS 89 (.pick 85 88 kF),kM 90 89,kG 91 90 (.aB 2),kG 92 90 (.gp 91),kG 93 90 (.bin .gtr 3 92 (kI 2)),kS 94 (.pick 90 93 kF),kM 95 94,kG 96 95 (.aB 2),kG 97 95 (.aB 2),kG 98 95 (.gp 97),kG 99 95 (.bin .sub 3 98 (kI 3)),kG 100 95 (.dM 2 96 99),kG 101 95 (.bH 1 100),kG 102 95 (.aB 101),kS 103 (.pick 95 102 kF),kM 104 103,kG 105 104 (.mv 7),kG 106 104 (.call 105 [(kI 2)]),kS 107 (.pick 104 106 kF),kS 81 (.aN 107)]) (.cond 81 (.seq (kO [kS 108 (.aB 2),kS 109 (.gp 108),kS 110 (.bin .sub 3 109 (kI 3)),kS 10 (.aN 110)]) (.seq (.ops [111,112,113,114,115,116,117,118,119,120,121,122,123,124,125,126,127,128,129,130,131,132,133,134,11] [kS 113 (.aB 2),kM 114 10,kS 115 (.dM 2 113 114),kS 116 (.bH 0 115),kS 117 (.aB 116),kS 119 (.aB 2),kM 120 10,kS 121 (.bin .add 3 120 (kI 1)),kS 122 (.dM 2 119 121),kS 123 (.bH 0 122),kS 124 (.aB 123),kS 126 (.aB 2),kM 127 10,kS 128 (.bin .add 3 127 (kI 2)),kS 129 (.dM 2 126 128),kS 130 (.bH 0 129),kS 131 (.aB 130),⟨⟨(some 111),none,(kC 103 [(.const (.string ⟨⟨[40]⟩⟩))])⟩,[⟨(some 131),none,(.aB 130)⟩,⟨(some 126),none,(.aB 2)⟩,⟨(some 124),none,(.aB 123)⟩,⟨(some 119),none,(.aB 2)⟩,⟨(some 117),none,(.aB 116)⟩,⟨(some 113),none,(.aB 2)⟩]⟩,⟨⟨(some 112),none,(kC 106 [(.const (.string ⟨⟨[105,102]⟩⟩))])⟩,[⟨(some 131),none,(.aB 130)⟩,⟨(some 126),none,(.aB 2)⟩,⟨(some 124),none,(.aB 123)⟩,⟨(some 119),none,(.aB 2)⟩,⟨(some 117),none,(.aB 116)⟩,⟨(some 113),none,(.aB 2)⟩]⟩,⟨⟨(some 118),none,(kC 106 [(.const (.string ⟨⟨[116,104,101,110]⟩⟩))])⟩,[⟨(some 131),none,(.aB 130)⟩,⟨(some 126),none,(.aB 2)⟩,⟨(some 124),none,(.aB 123)⟩,⟨(some 119),none,(.aB 2)⟩,⟨(some 117),none,(.aB 116)⟩,⟨(some 113),none,(.aB 2)⟩]⟩,⟨⟨(some 125),none,(kC 106 [(.const (.string ⟨⟨[101,108,115,101]⟩⟩))])⟩,[⟨(some 131),none,(.aB 130)⟩,⟨(some 126),none,(.aB 2)⟩,⟨(some 124),none,(.aB 123)⟩,⟨(some 119),none,(.aB 2)⟩,⟨(some 117),none,(.aB 116)⟩,⟨(some 113),none,(.aB 2)⟩]⟩,⟨⟨(some 132),none,(kC 103 [(.const (.string ⟨⟨[41]⟩⟩))])⟩,[⟨(some 131),none,(.aB 130)⟩,⟨(some 126),none,(.aB 2)⟩,⟨(some 124),none,(.aB 123)⟩,⟨(some 119),none,(.aB 2)⟩,⟨(some 117),none,(.aB 116)⟩,⟨(some 113),none,(.aB 2)⟩]⟩,⟨⟨(some 133),none,(.cu 110 8 [vS,vS,vS,vS,vS,vS,vS,vS] [⟨0,⟨1,111⟩⟩,⟨1,⟨1,112⟩⟩,⟨2,⟨1,117⟩⟩,⟨3,⟨1,118⟩⟩,⟨4,⟨1,124⟩⟩,⟨5,⟨1,125⟩⟩,⟨6,⟨1,131⟩⟩,⟨7,⟨1,132⟩⟩])⟩,[]⟩,kS 134 (kC 102 [133]),kS 11 (.aN 134)]) (kO [kS 135 (.aB 2),kM 136 10,kS 137 (.kr 2 135 none (some 136) none),kM 138 11,⟨⟨(some 139),none,(.build [vS,(.bool false)] [⟨0,⟨1,138⟩⟩])⟩,[]⟩,⟨⟨(some 140),none,(.cu 112 1 [vS,(.bool false)] [⟨0,⟨2,139⟩⟩])⟩,[]⟩,kS 141 (.append 112 2 32 137 140),kN (.store 1 2 141)]))) (.seq (kO [kS 143 (.bH 0 9),kS 144 (.aB 143),kS 145 (.bin .geq 3 144 (kI 3)),kM 146 145,kG 147 146 (.bH 0 9),kG 148 146 (.aB 147),kG 149 146 (.bin .lss 3 148 (kI 10)),kS 150 (.pick 146 149 kF),kM 151 150,kG 152 151 (.bH 1 9),kG 153 151 (.aB 152),kG 154 151 (.bin .eql 3 153 (kI 0)),kS 155 (.pick 151 154 kF),kM 156 155,kG 157 156 (.mv 7),kG 158 156 (.call 157 [(kI 2)]),kS 159 (.pick 156 158 kF),kS 142 (.aN 159)]) (.cond 142 (.seq (kO [kS 160 (.aB 2),kS 161 (.gp 160),kS 162 (.bin .sub 3 161 (kI 2)),kS 12 (.aN 162)]) (.ops [163,164,165,166,167,168,169,170,171,172,173,174,175,176,177,178,179,180,181,182,183,184,185,186,187] [kS 163 (.aB 2),kM 164 12,kS 165 (.kr 2 163 none (some 164) none),kS 166 (.bH 0 9),kS 167 (.aB 166),kS 168 (.zl 10 1 6 167),kS 169 (.aB 168),kS 170 (.aB 2),kM 171 12,kS 172 (.dM 2 170 171),kS 173 (.bH 0 172),kS 174 (.aB 173),kS 175 (.aB 2),kM 176 12,kS 177 (.bin .add 3 176 (kI 1)),kS 178 (.dM 2 175 177),kS 179 (.bH 0 178),kS 180 (.aB 179),kS 182 (.bH 0 9),kS 183 (.aB 182),kS 184 (.bin .eql 3 183 (kI 9)),⟨⟨(some 181),none,(.call 169 [174,180])⟩,[⟨(some 183),none,(.aB 182)⟩,⟨(some 163),none,(.aB 2)⟩]⟩,⟨⟨(some 185),none,(.build [vS,(.bool false)] [⟨0,⟨1,181⟩⟩,⟨1,⟨1,184⟩⟩])⟩,[]⟩,⟨⟨(some 186),none,(.cu 112 1 [vS,(.bool false)] [⟨0,⟨2,185⟩⟩])⟩,[]⟩,kS 187 (.append 112 2 32 165 186),kN (.store 1 2 187)])) (.seq (kO [kN (.store 1 2 (.const vS)),kS 3 (.aN kF)]) .ret)))))))))))) (kO [kS 188 (.bin .add 3 29 (kI 1)),kM 29 188]))))))) (.seq (.ops [189,190,191,192,193,194,195,196,197,198,199,200,201,202,203,204,3] [kS 189 (.aB 2),kM 190 0,kS 191 (.gp 190),kS 192 (.bin .leq 3 191 (kI 256)),kM 193 192,kG 194 193 (.aB 2),kG 195 193 (.gp 194),kG 196 193 (.bin .eql 3 195 (kI 1)),kS 197 (.pick 193 196 kF),kM 198 197,kG 199 198 (.aB 2),kG 200 198 (.dM 2 199 (kI 0)),kG 201 198 (.bH 1 200),kG 202 198 (.aB 201),kG 203 198 (.un .not 202),kS 204 (.pick 198 203 kF),⟨⟨none,none,(.store 1 2 189)⟩,[⟨(some 202),(some ⟨198,true⟩),(.aB 201)⟩]⟩,kS 3 (.aN 204)]) .ret)))))))⟩
theorem UT:iN Tryz.prog 81=some La:=by kernel_rfl
def dP(c:Prop)(f:aH):aH:=⟨λw=>c->f.p w,λa h e=>f.mono a (h e)⟩
def fV:Enc cO:=⟨2,Unit,λx _=>[.int .i64 x.op,.int .i64 x.n],λ_ _=>[],λ_ _=>rfl⟩
structure UU where
 v:Value
 ok:Bool
 ts:List Tok
def jC(L:List jN):Nat:=(L.map λp=>p.1.1.length).sum
structure qg(ws:List cO)(k:Nat)(L:List jN):Prop where
 kl:k<=ws.length
 fl:iG (ws.take k)=some (j5 L)
 ok:∀p∈L,iY p.1.1
 tot:jC L<=6*k
 sl:∀p∈L,∃a n c,p.2=Value.slice a n c
theorem qg.bad{ws:List cO}{k:Nat}{L:List jN}{w:cO}(h:qg ws k L)(hw:ws[k]? =some w)(hn:aX (j5 L) w=none):¬dD ws:=λhp=>by
 have:=hp.fl;rw[E8 (k:=k+1) (by rw[AP hw h.fl,hn])]at this;cases this
theorem Lb(L M:List jN):jC (L++M)=jC L+jC M:=by unfold jC;rw[ic,zf]
theorem FE(L:List jN)(k:Nat):jC L=jC (L.take k)+jC (L.drop k):=by rw[<- Lb,rZ]
theorem qg.next{ws:List cO}{k:Nat}{L:List jN}{w:cO}(h:qg ws k L)(hw:ws[k]? =some w){m:Nat}{ts:List Tok}{c:Bool}{a:Option Addr}{n cp:Nat}(hc:aX (j5 L) w=some ((j5 L).take m++[c]))(hok:iY ts)(ht:ts.length<=jC (L.drop m)+6):
 qg ws (k+1) (L.take m++[(((ts,c),Value.slice a n cp):jN)]):=by
 refine⟨(fH.1 hw).1,?_,λp hp=>?_,?_,λp hp=>?_⟩
 ·rw[AP hw h.fl,hc];unfold j5;rw[ic,List.map_take];rfl
 ·rcases gZ.1 hp with hp|hp
  ·exact h.ok p (y7 hp)
  ·rw[dH.1 hp];exact hok
 ·have h1:=FE L m;have h2:=h.tot;rw[Lb];have h3:jC [((ts,c),Value.slice a n cp)]=ts.length:=by simp[jC]
  omega
 ·rcases gZ.1 hp with hp|hp
  ·exact h.sl p (y7 hp)
  ·rw[dH.1 hp];exact⟨_,_,_,rfl⟩
theorem qg.nx{ws:List cO}{k:Nat}{L:List jN}{w:cO}(h:qg ws k L)(hw:ws[k]? =some w){ts:List Tok}{a:Option Addr}{n cp:Nat}(hc:aX (j5 L) w=some (j5 L++[false]))(hok:iY ts)(ht:ts.length<=6):
 qg ws (k+1) (L++[(((ts,false),Value.slice a n cp):jN)]):=by
 have:=h.next hw (m:=L.length) (ts:=ts) (c:=false) (a:=a) (n:=n) (cp:=cp) (by rw[oJ (by rw[lJ];exact az _)];exact hc) hok (by omega)
 rwa [oJ (az _)]at this
def FH(k:Nat):Fn:=if k<=6 then .func 101 else if k<=8 then .func 105 else .func 107
def FI(b1 b2 b3 b4 b5 b6 k:Nat):List Value:=if k=3 then[ptr' b1]else if k=4 then[ptr' b2]else if k=5 then[ptr' b3]else if k=6 then[ptr' b4]else if k=7 then[ptr' b5]else if k=8 then[ptr' b6]else[]
def FJ(b1 b2 b3 b4 b5 b6:Nat):List Value:=[.nilFunc,.nilFunc,.nilFunc,.func (.func 101) ⟨[]⟩ ⟨[ptr' b1]⟩,.func (.func 101) ⟨[]⟩ ⟨[ptr' b2]⟩,.func (.func 101) ⟨[]⟩ ⟨[ptr' b3]⟩,.func (.func 101) ⟨[]⟩ ⟨[ptr' b4]⟩,
 .func (.func 105) ⟨[]⟩ ⟨[ptr' b5]⟩,.func (.func 105) ⟨[]⟩ ⟨[ptr' b6]⟩,.func (.func 107) ⟨[]⟩ ⟨[]⟩]
theorem UW{b1 b2 b3 b4 b5 b6 k:Nat}(h3:3<=k)(h9:k<=9):eX (FJ b1 b2 b3 b4 b5 b6) k=some (.func (FH k) ⟨[]⟩ ⟨FI b1 b2 b3 b4 b5 b6 k⟩):=by
 have:k=3\/k=4\/k=5\/k=6\/k=7\/k=8\/k=9:=by omega
 rcases this with rfl|rfl|rfl|rfl|rfl|rfl|rfl<;>rfl
theorem UX{b1 b2 b3 b4 b5 b6 k:Nat}{va vb:Value}{xs ys:List Tok}(h3:3<=k)(h9:k<=9)(hx:iY xs)(hy:iY ys)(hxl:xs.length<=2048)(hyl:ys.length<=2048):
 bJ Tryz.prog (FH k) [va,vb] (FI b1 b2 b3 b4 b5 b6 k) [] [dK b6 0 [.string ⟨⟨[109,97,120]⟩⟩],dK b5 0 [.string ⟨⟨[109,105,110]⟩⟩],dK b4 0 [.string ⟨⟨[47]⟩⟩],dK b3 0 [.string ⟨⟨[42]⟩⟩],dK b2 0 [.string ⟨⟨[45]⟩⟩],dK b1 0 [.string ⟨⟨[43]⟩⟩],ah bQ va xs,ah bQ vb ys]
  (λy:Bj=>y.1) (λ_=>[]) (λy=>[ah bQ y.1 y.2]) (λy=>iY y.2/\y.2.length<=xs.length+ys.length+4):=by
 have:k=3\/k=4\/k=5\/k=6\/k=7\/k=8\/k=9:=by omega
 rcases this with rfl|rfl|rfl|rfl|rfl|rfl|rfl
 ·exact(Bl (b:=b1) (s:=⟨⟨[43]⟩⟩) (by simp[jB]) hx hy hxl hyl).facts (by simp)
 ·exact(Bl (b:=b2) (s:=⟨⟨[45]⟩⟩) (by simp[jB]) hx hy hxl hyl).facts (by simp)
 ·exact(Bl (b:=b3) (s:=⟨⟨[42]⟩⟩) (by simp[jB]) hx hy hxl hyl).facts (by simp)
 ·exact(Bl (b:=b4) (s:=⟨⟨[47]⟩⟩) (by simp[jB]) hx hy hxl hyl).facts (by simp)
 ·exact(K7 (b:=b5) (s:=⟨⟨[109,105,110]⟩⟩) (by simp[ng]) hx hy hxl hyl).facts (by simp)
 ·exact(K7 (b:=b6) (s:=⟨⟨[109,97,120]⟩⟩) (by simp[ng]) hx hy hxl hyl).facts (by simp)
 ·exact(UN hx hy hxl hyl).facts (by simp)
theorem UY{vp:Value}{ws:List cO}(hl:ws.length<=256):bJ Tryz.prog (.func 81) [vp] [] [] [ah fV vp ws] (λy:UU=>.tuple ⟨[y.v,.bool y.ok]⟩) (λ_=>[]) (λy=>[dP (y.ok=true) (ah aW y.v [(y.ts,false)])])
 (λy=>(y.ok=true↔dD ws)/\(y.ok=true->iY y.ts/\y.ts.length<=2048)):=by
 refine bq La UT λB w0=>?_;refine go ?_;intro bL;refine go ?_;refine aF (Bn (s:=⟨⟨[43]⟩⟩)) (next:=λb1 _=>?_);refine go ?_;refine aF (Bn (s:=⟨⟨[45]⟩⟩)) (next:=λb2 _=>?_);refine go ?_;refine aF (Bn (s:=⟨⟨[42]⟩⟩)) (next:=λb3 _=>?_);refine go ?_;refine aF (Bn (s:=⟨⟨[47]⟩⟩)) (next:=λb4 _=>?_);refine go ?_;refine aF (K8 (s:=⟨⟨[109,105,110]⟩⟩)) (next:=λb5 _=>?_);refine go ?_;refine aF (K8 (s:=⟨⟨[109,97,120]⟩⟩)) (next:=λb6 _=>?_);refine go ?_;intro bA;refine go ?_;refine dB (kL (b:=bA) (cs:=FJ b1 b2 b3 b4 b5 b6)) (hk:=.here) (h:=?_);refine ER aW ?_;refine dZ (λy:Nat×Value×List jN=>ws.length - y.1) (λy=>[(29,.int .i64 (y.1:Int))]) (λy=>[pt bL (.cells [y.2.1]),sk aW y.2.1 y.2.2]) (λ_=>[]) (λy=>qg ws y.1 y.2.2) (0,.slice none 0 0,[]) ⟨dz _,rfl,(λp hp=>by cases hp),dz _,(λp hp=>by cases hp)⟩ (hk:=by repeat (first|exact bI.nil|(apply bI.cons;(focus (repeat (first|exact ak.here|apply ak.there)))))) (body:=?_);rintro⟨k,v,L⟩ hI;dsimp only at hI⊢;have hkl:=hI.kl;have htot:=hI.tot;have Lc:L.length<=256:=by have:=yl k (by rw[cB];omega) hI.fl;rw[lJ]at this;omega
 refine go ?_;refine aJ rfl (λh0=>?_) (λh0=>?_)
 ·refine go ?_;refine dh fV (k:=k) (next:=λbw ow w _ hw=>?_);refine go ?_;intro b9;obtain⟨op,n⟩:=w;dsimp only;refine go ?_;refine gG (λh1=>?_) (λh1=>?_)
  ·refine go ?_;refine gG (λh2=>?_) (λh2=>?_)
   ·refine go ?_;refine gG (λh3=>?_) (λh3=>?_)
    ·refine go ?_;refine gG (λh4=>?_) (λh4=>?_)
     ·have hno:¬dD ws:=hI.bad hw (by simp[aX,h1,h2,h3,h4]);refine go ?_;refine bM (dP (false=true) (ah aW (.slice none 0 0) [([],false)])) (λw hw e=>by cases e) ?_;exact av ⟨.slice none 0 0,false,[]⟩ (hv:=rfl) (hp:=⟨⟨(λe=>by cases e),λh=>absurd h hno⟩,(λe=>by cases e)⟩)
     refine go ?_;refine gG (λh5=>?_) (λh5=>?_)
     ·have hno:¬dD ws:=hI.bad hw (by simp[aX,h1,h2,h3,h5]);refine go ?_;refine bM (dP (false=true) (ah aW (.slice none 0 0) [([],false)])) (λw hw e=>by cases e) ?_;exact av ⟨.slice none 0 0,false,[]⟩ (hv:=rfl) (hp:=⟨⟨(λe=>by cases e),λh=>absurd h hno⟩,(λe=>by cases e)⟩)
     refine go ?_;refine gG (λh6=>?_) (λh6=>?_)
     ·have hno:¬dD ws:=hI.bad hw (by simp[aX,h1,h2,h3,h4,h6]);refine go ?_;refine bM (dP (false=true) (ah aW (.slice none 0 0) [([],false)])) (λw hw e=>by cases e) ?_;exact av ⟨.slice none 0 0,false,[]⟩ (hv:=rfl) (hp:=⟨⟨(λe=>by cases e),λh=>absurd h hno⟩,(λe=>by cases e)⟩)
     subst h6;refine go ?_;refine aF (K9 (bL:=bL) (v:=v) (L:=L) (by omega) hI.sl) (next:=λ_ _=>?_);refine go ?_;refine aJ rfl (λh7=>?_) (λh7=>?_)
     rotate_left
     ·have hno:¬dD ws:=hI.bad hw (by unfold qf at h7;simp[aX,h1,h2,h3,h4,h5];exact λa b c=>h7 ⟨a,b,c⟩);refine go ?_;refine bM (dP (false=true) (ah aW (.slice none 0 0) [([],false)])) (λw hw e=>by cases e) ?_;exact av ⟨.slice none 0 0,false,[]⟩ (hv:=rfl) (hp:=⟨⟨(λe=>by cases e),λh=>absurd h hno⟩,(λe=>by cases e)⟩)
     have hf2:2<=L.length:=by have:=h7.1;rw[lJ]at this;exact this
     refine go ?_;refine yc aW (v:=v) (aa:=L) ?_;refine go ?_;rw[show(L.length:Int) - 2=((L.length - 2:Nat):Int)by omega];refine oh aW (v:=v) (aa:=L) (by omega) λb f c r hf hr hc e=>?_;subst e;refine(bY rfl rfl (x9 (lo:=0) (hi:=L.length - 2) rfl hf (by decide) (.inl ⟨rfl,rfl⟩) (.inr ⟨_,rfl,rfl⟩) (dz _) (by omega))).h ?_;rw[show Value.slice (some ⟨b,0+0*aW.n,some f⟩) (L.length - 2 - 0) (c - 0)=.slice (some ⟨b,0,some f⟩) (L.length - 2) c by rw[nG,lS,lS]];obtain⟨q,rfl⟩:=uk (show 0<=op by omega);refine go ?_;refine(pO (b:=bA) (o:=0) (j:=(q:Int).toNat*1) (cs:=FJ b1 b2 b3 b4 b5 b6) (v:=.func (FH q) ⟨[]⟩ ⟨FI b1 b2 b3 b4 b5 b6 q⟩) rfl rfl rfl (by repeat (first|with_reducible exact aT .. |with_reducible apply bB)) (by rw[Int.toNat_natCast,ko];exact UW (by omega) (by omega))).h ?_;have hp1:L[L.length - 2]? =some (L[L.length - 2]'(by omega)):=bO _;have hp2:L[L.length - 1]? =some (L[L.length - 1]'(by omega)):=bO _;generalize L[L.length - 2]'(by omega)=p1 at hp1;generalize L[L.length - 1]'(by omega)=p2 at hp2;obtain⟨a1,n1,c1,e1⟩:=hI.sl p1 (dG hp1);obtain⟨a2,n2,c2,e2⟩:=hI.sl p2 (dG hp2);have ok1:=hI.ok p1 (dG hp1);have yF:=hI.ok p2 (dG hp2);obtain⟨⟨t1,g1⟩,v1⟩:=p1;obtain⟨⟨t2,g2⟩,v2⟩:=p2;dsimp only at e1 e2 ok1 yF;subst e1 e2;have htl:jC (L.drop (L.length - 2))=t1.length+t2.length:=by
      have ed:L.drop (L.length - 2)=[((t1,g1),.slice a1 n1 c1),((t2,g2),.slice a2 n2 c2)]:=by
       apply ja;intro j;rw[iK];match j with
       |0=>exact hp1
       |1=>rw[show L.length - 2+1=L.length - 1 by omega];exact hp2
       |j+2=>rw[gU (by omega)];rfl
      rw[ed];simp[jC]
     have htk:=FE L (L.length - 2);refine yf aW (aa:=L) hp1 ?_;refine yf aW (aa:=L) hp2 ?_;refine go ?_;refine jW (o:=0+(L.length - 2)*2+0) (.slice a1 n1 c1) (jw (E:=aW) (j:=0) hp1 rfl (by show _=(L.length - 2)*2+0;omega)) ?_;refine go ?_;refine jW (o:=0+(((L.length - 2:Nat):Int)+1).toNat*2+0) (.slice a2 n2 c2) (jw (E:=aW) (j:=0) hp2 rfl (by show _=(L.length - 1)*2+0;omega)) ?_;refine go ?_;refine aF (UX (b1:=b1) (b2:=b2) (b3:=b3) (b4:=b4) (b5:=b5) (b6:=b6) (k:=q) (xs:=t1) (ys:=t2) (by omega) (by omega) ok1 yF (by omega) (by omega)) (next:=λy hy=>?_);obtain⟨yv,yt⟩:=y;dsimp only at hy⊢;refine iT (E:=bQ) (v:=yv) (xs:=yt) (by simp) λay cy ey=>?_;subst ey;refine go ?_;intro XK;refine ET aW (aa:=L) (b:=b) (f:=f) (c:=c) (m:=L.length - 2) (r:=r) (by omega) hf hr hc ?_;refine gX aW (v:=.slice (some ⟨b,0,some f⟩) (L.length - 2) c) (aa:=L.take (L.length - 2)) (yt,decide ((q:Int)=9)) (.slice ay yt.length cy) ⟨by rw[cB];omega,by rw[cB];omega,by rw[cB];omega⟩ (λv'=>?_);refine jv aW (v:=v') λa c' e=>?_;subst e;refine go ?_;refine bC (k+1,.slice a _ c',L.take (L.length - 2)++[((yt,decide ((q:Int)=9)),.slice ay yt.length cy)]) (by show ws.length - (k+1)<ws.length - k;omega) (hI.next hw ?_ hy.1 (by have:=hy.2;omega));obtain⟨q1,q2,q3⟩:=h7;simp only[aX,lJ]at q1 q2 q3⊢;rw[if_neg h1,if_neg h2,if_neg (by omega),if_neg h3,if_pos ⟨h4,h5⟩,if_pos ⟨q1,q2,q3⟩]
    subst h3;refine go ?_;refine gG (λh6=>?_) (λh6=>?_)
    ·have hno:¬dD ws:=hI.bad hw (by simp[aX,h6]);refine go ?_;refine bM (dP (false=true) (ah aW (.slice none 0 0) [([],false)])) (λw hw e=>by cases e) ?_;exact av ⟨.slice none 0 0,false,[]⟩ (hv:=rfl) (hp:=⟨⟨(λe=>by cases e),λh=>absurd h hno⟩,(λe=>by cases e)⟩)
    subst h6;refine go ?_;refine yc aW (v:=v) (aa:=L) ?_;refine go ?_;refine gG (λh7=>?_) (λh7=>?_)
    ·have hno:¬dD ws:=hI.bad hw (by simp[aX,lJ];omega);refine go ?_;refine bM (dP (false=true) (ah aW (.slice none 0 0) [([],false)])) (λw hw e=>by cases e) ?_;exact av ⟨.slice none 0 0,false,[]⟩ (hv:=rfl) (hp:=⟨⟨(λe=>by cases e),λh=>absurd h hno⟩,(λe=>by cases e)⟩)
    refine go ?_;refine yc aW (v:=v) (aa:=L) ?_;refine go ?_;rw[show(L.length:Int) - 3=((L.length - 3:Nat):Int)by omega];refine oh aW (v:=v) (aa:=L) (by omega) λb f c r hf hr hc e=>?_;subst e;have hp3:L[L.length - 3]? =some (L[L.length - 3]'(by omega)):=bO _;have hp1:L[L.length - 2]? =some (L[L.length - 2]'(by omega)):=bO _;have hp2:L[L.length - 1]? =some (L[L.length - 1]'(by omega)):=bO _;generalize L[L.length - 3]'(by omega)=p3 at hp3;generalize L[L.length - 2]'(by omega)=p1 at hp1;generalize L[L.length - 1]'(by omega)=p2 at hp2;obtain⟨a3,n3,c3,e3⟩:=hI.sl p3 (dG hp3);obtain⟨a1,n1,c1,e1⟩:=hI.sl p1 (dG hp1);obtain⟨a2,n2,c2,e2⟩:=hI.sl p2 (dG hp2);have Ld:=hI.ok p3 (dG hp3);have ok1:=hI.ok p1 (dG hp1);have yF:=hI.ok p2 (dG hp2);have tQ:=FD hp3;obtain⟨⟨t3,g3⟩,v3⟩:=p3;obtain⟨⟨t1,g1⟩,v1⟩:=p1;obtain⟨⟨t2,g2⟩,v2⟩:=p2;dsimp only at e1 e2 e3 ok1 yF Ld tQ;subst e1 e2 e3;refine go ?_;refine jW (o:=0+(L.length - 3)*2+1) (.bool g3) (jw (E:=aW) (j:=1) hp3 rfl (by show _=(L.length - 3)*2+1;omega)) ?_;refine go ?_;refine gG (λh8=>?_) (λh8=>?_)
    ·have hno:¬dD ws:=hI.bad hw (by simp[aX,lJ,tQ,h8]);refine go ?_;refine bM (dP (false=true) (ah aW (.slice none 0 0) [([],false)])) (λw hw e=>by cases e) ?_;exact av ⟨.slice none 0 0,false,[]⟩ (hv:=rfl) (hp:=⟨⟨(λe=>by cases e),λh=>absurd h hno⟩,(λe=>by cases e)⟩)
    refine vL aW (aa:=L) (b:=b) (f:=f) (c:=c) (m:=L.length) (r:=r) rfl hf hr hc ?_;refine go ?_;refine aF (K9 (bL:=bL) (v:=.slice (some ⟨b,0,some f⟩) L.length c) (L:=L) (by omega) hI.sl) (next:=λ_ _=>?_);refine go ?_;refine aJ rfl (λh9=>?_) (λh9=>?_)
    rotate_left
    ·have hno:¬dD ws:=hI.bad hw (by unfold qf at h9;simp only[lJ]at h9;simp[aX,lJ];intro a b' c d;exact h9 ⟨by omega,c,d⟩);refine go ?_;refine bM (dP (false=true) (ah aW (.slice none 0 0) [([],false)])) (λw hw e=>by cases e) ?_;exact av ⟨.slice none 0 0,false,[]⟩ (hv:=rfl) (hp:=⟨⟨(λe=>by cases e),λh=>absurd h hno⟩,(λe=>by cases e)⟩)
    refine go ?_;rw[show(L.length:Int) - 3=((L.length - 3:Nat):Int)by omega];refine oh aW (aa:=L) (by omega) λb' f' c' r' hf' hr' hc' e=>?_;cases e;refine yf aW (aa:=L) hp3 ?_;refine yf aW (aa:=L) hp1 ?_;refine yf aW (aa:=L) hp2 ?_;dsimp only;have hv3:(aO aW L++r')[0+(L.length - 3)*2+0]? =some (.slice a3 n3 c3):=jw (E:=aW) (j:=0) hp3 rfl (by show _=(L.length - 3)*2+0;omega);have hv1:(aO aW L++r')[0+(((L.length - 3:Nat):Int)+1).toNat*2+0]? =some (.slice a1 n1 c1):=jw (E:=aW) (j:=0) hp1 rfl (by show _=(L.length - 2)*2+0;omega);have hv2:(aO aW L++r')[0+(((L.length - 3:Nat):Int)+2).toNat*2+0]? =some (.slice a2 n2 c2):=jw (E:=aW) (j:=0) hp2 rfl (by show _=(L.length - 1)*2+0;omega);have htl:jC (L.drop (L.length - 3))=t3.length+t1.length+t2.length:=by
     have ed:L.drop (L.length - 3)=[((t3,g3),.slice a3 n3 c3),((t1,g1),.slice a1 n1 c1),((t2,g2),.slice a2 n2 c2)]:=by
      apply ja;intro j;rw[iK];match j with
      |0=>exact hp3
      |1=>rw[show L.length - 3+1=L.length - 2 by omega];exact hp1
      |2=>rw[show L.length - 3+2=L.length - 1 by omega];exact hp2
      |j+3=>rw[gU (by omega)];rfl
     rw[ed];simp[jC];omega
    have htk:=FE L (L.length - 3);refine jW (.slice a3 n3 c3) hv3 ?_;refine go ?_;refine jW (.slice a1 n1 c1) hv1 ?_;refine go ?_;refine jW (.slice a2 n2 c2) hv2 ?_;refine go ?_;refine aF (qc (s:=⟨⟨[40]⟩⟩)) (hs:=by
     intro _ _;repeat (first
      |exact nU
      |refine mV rfl (by repeat (first|with_reducible exact ak.here|with_reducible apply ak.there)) rfl rfl ?_
      |refine jX rfl (by repeat (first|with_reducible exact ak.here|with_reducible apply ak.there)) hv3 rfl ?_
      |refine jX rfl (by repeat (first|with_reducible exact ak.here|with_reducible apply ak.there)) hv1 rfl ?_
      |refine jX rfl (by repeat (first|with_reducible exact ak.here|with_reducible apply ak.there)) hv2 rfl ?_)) (next:=λu1 _=>?_)
    refine go ?_;refine aF (yC (s:=⟨⟨[105,102]⟩⟩)) (hs:=by
     intro _ _;repeat (first
      |exact nU
      |refine mV rfl (by repeat (first|with_reducible exact ak.here|with_reducible apply ak.there)) rfl rfl ?_
      |refine jX rfl (by repeat (first|with_reducible exact ak.here|with_reducible apply ak.there)) hv3 rfl ?_
      |refine jX rfl (by repeat (first|with_reducible exact ak.here|with_reducible apply ak.there)) hv1 rfl ?_
      |refine jX rfl (by repeat (first|with_reducible exact ak.here|with_reducible apply ak.there)) hv2 rfl ?_)) (next:=λu2 _=>?_)
    refine go ?_;refine aF (yC (s:=⟨⟨[116,104,101,110]⟩⟩)) (hs:=by
     intro _ _;repeat (first
      |exact nU
      |refine mV rfl (by repeat (first|with_reducible exact ak.here|with_reducible apply ak.there)) rfl rfl ?_
      |refine jX rfl (by repeat (first|with_reducible exact ak.here|with_reducible apply ak.there)) hv3 rfl ?_
      |refine jX rfl (by repeat (first|with_reducible exact ak.here|with_reducible apply ak.there)) hv1 rfl ?_
      |refine jX rfl (by repeat (first|with_reducible exact ak.here|with_reducible apply ak.there)) hv2 rfl ?_)) (next:=λu3 _=>?_)
    refine go ?_;refine aF (yC (s:=⟨⟨[101,108,115,101]⟩⟩)) (hs:=by
     intro _ _;repeat (first
      |exact nU
      |refine mV rfl (by repeat (first|with_reducible exact ak.here|with_reducible apply ak.there)) rfl rfl ?_
      |refine jX rfl (by repeat (first|with_reducible exact ak.here|with_reducible apply ak.there)) hv3 rfl ?_
      |refine jX rfl (by repeat (first|with_reducible exact ak.here|with_reducible apply ak.there)) hv1 rfl ?_
      |refine jX rfl (by repeat (first|with_reducible exact ak.here|with_reducible apply ak.there)) hv2 rfl ?_)) (next:=λu4 _=>?_)
    refine go ?_;refine aF (qc (s:=⟨⟨[41]⟩⟩)) (hs:=by
     intro _ _;repeat (first
      |exact nU
      |refine mV rfl (by repeat (first|with_reducible exact ak.here|with_reducible apply ak.there)) rfl rfl ?_
      |refine jX rfl (by repeat (first|with_reducible exact ak.here|with_reducible apply ak.there)) hv3 rfl ?_
      |refine jX rfl (by repeat (first|with_reducible exact ak.here|with_reducible apply ak.there)) hv1 rfl ?_
      |refine jX rfl (by repeat (first|with_reducible exact ak.here|with_reducible apply ak.there)) hv2 rfl ?_)) (next:=λu5 _=>?_)
    refine go ?_;intro UZ;have z1:=ok1.pos;refine Bg (b:=UZ) (m:=8) (ls:=[[dF ⟨⟨[40]⟩⟩],[gK ⟨⟨[105,102]⟩⟩],t3,[gK ⟨⟨[116,104,101,110]⟩⟩],t1,[gK ⟨⟨[101,108,115,101]⟩⟩],t2,[dF ⟨⟨[41]⟩⟩]])
     [([dF ⟨⟨[40]⟩⟩],.slice (some ⟨u1,0,some 0⟩) 1 1),([gK ⟨⟨[105,102]⟩⟩],.slice (some ⟨u2,0,some 0⟩) 1 1),(t3,.slice a3 n3 c3),([gK ⟨⟨[116,104,101,110]⟩⟩],.slice (some ⟨u3,0,some 0⟩) 1 1),(t1,.slice a1 n1 c1),([gK ⟨⟨[101,108,115,101]⟩⟩],.slice (some ⟨u4,0,some 0⟩) 1 1),(t2,.slice a2 n2 c2),([dF ⟨⟨[41]⟩⟩],.slice (some ⟨u5,0,some 0⟩) 1 1)] ?_
    refine aF (Bh (ls:=[[dF ⟨⟨[40]⟩⟩],[gK ⟨⟨[105,102]⟩⟩],t3,[gK ⟨⟨[116,104,101,110]⟩⟩],t1,[gK ⟨⟨[101,108,115,101]⟩⟩],t2,[dF ⟨⟨[41]⟩⟩]]) (by simp) (by simp[eB];omega) (by simp[eB];omega)) (next:=λyv _=>?_);generalize Bo:[[dF ⟨⟨[40]⟩⟩],[gK ⟨⟨[105,102]⟩⟩],t3,[gK ⟨⟨[116,104,101,110]⟩⟩],t1,[gK ⟨⟨[101,108,115,101]⟩⟩],t2,[dF ⟨⟨[41]⟩⟩]].flatten=yt;have hyl:yt.length=5+t3.length+t1.length+t2.length:=by rw[<- Bo];simp;omega
    have hyk:iY yt:=by
     refine⟨?_,by omega⟩;rw[<- Bo];simp only[nE,uo,ul,iL,jR];exact j4 (qd (by simp[jB])) (j4 (yD (by simp[ng])) (rH Ld.ok (j4 (yD (by simp[ng])) (rH ok1.ok (j4 (yD (by simp[ng])) (rH yF.ok (j4 (qd (by simp[jB])) yE)))))))
    refine iT (E:=bQ) (v:=yv) (xs:=yt) (by simp) λay cy ey=>?_;subst ey;refine go ?_;refine(bY rfl rfl (x9 (lo:=0) (hi:=L.length - 3) rfl hf (by decide) (.inl ⟨rfl,rfl⟩) (.inr ⟨_,rfl,rfl⟩) (dz _) (by omega))).h ?_;rw[show Value.slice (some ⟨b,0+0*aW.n,some f⟩) (L.length - 3 - 0) (c - 0)=.slice (some ⟨b,0,some f⟩) (L.length - 3) c by rw[nG,lS,lS]];refine go ?_;intro XL;refine ET aW (aa:=L) (b:=b) (f:=f) (c:=c) (m:=L.length - 3) (r:=r') (by omega) hf hr' hc ?_;refine gX aW (v:=.slice (some ⟨b,0,some f⟩) (L.length - 3) c) (aa:=L.take (L.length - 3)) (yt,false) (.slice ay yt.length cy) ⟨by rw[cB];omega,by rw[cB];omega,by rw[cB];omega⟩ (λv'=>?_);refine jv aW (v:=v') λa c' e=>?_;subst e;refine go ?_;refine bC (k+1,.slice a _ c',L.take (L.length - 3)++[((yt,false),.slice ay yt.length cy)]) (by show ws.length - (k+1)<ws.length - k;omega) (hI.next hw ?_ hyk (by omega));obtain⟨q1,q2,q3⟩:=h9;simp only[lJ]at q1 q2 q3 tQ⊢;simp only[aX,lJ];rw[if_neg (by decide),if_neg (by decide),if_neg (by simp),if_pos True.intro,if_pos ⟨by omega,tQ.trans (by rw[h8]),q2,q3⟩]
   subst h2;refine go ?_;refine gG (λh3=>?_) (λh3=>?_)
   ·have hno:¬dD ws:=hI.bad hw (by simp[aX,h3]);refine go ?_;refine bM (dP (false=true) (ah aW (.slice none 0 0) [([],false)])) (λw hw e=>by cases e) ?_;exact av ⟨.slice none 0 0,false,[]⟩ (hv:=rfl) (hp:=⟨⟨(λe=>by cases e),λh=>absurd h hno⟩,(λe=>by cases e)⟩)
   refine go ?_;refine aF FC (next:=λbi _=>?_);refine go ?_;refine aJ rfl (λh4=>?_) (λh4=>?_)
   rotate_left
   ·have hno:¬dD ws:=hI.bad hw (by simp[aX];omega);refine go ?_;refine bM (dP (false=true) (ah aW (.slice none 0 0) [([],false)])) (λw hw e=>by cases e) ?_;exact av ⟨.slice none 0 0,false,[]⟩ (hv:=rfl) (hp:=⟨⟨(λe=>by cases e),λh=>absurd h hno⟩,(λe=>by cases e)⟩)
   refine go ?_;refine aF FC (next:=λbj _=>?_);obtain⟨m,rfl⟩:=uk h3;have hm:m<5:=by omega
   have hs:iJ[m]? =some (iJ[m]'hm):=bO _;generalize iJ[m]'hm=s at hs;refine go ?_;refine(pO (b:=bj) (o:=0) (j:=m*1) (cs:=iJ.map .string) (v:=.string s) rfl rfl rfl (aT ..) (by rw[ko,kz,bT,hs];rfl)).h ?_;refine go ?_;refine aF (yC (s:=s)) (next:=λbs _=>?_);refine go ?_;intro XM;refine gX aW (v:=v) (aa:=L) ([gK s],false) (.slice (some ⟨bs,0,some 0⟩) 1 1) ⟨by omega,by omega,by omega⟩ (λv'=>?_);refine jv aW (v:=v') λa c e=>?_;subst e;refine go ?_;exact bC (k+1,.slice a _ c,L++[(([gK s],false),.slice (some ⟨bs,0,some 0⟩) 1 1)]) (by show ws.length - (k+1)<ws.length - k;omega) (hI.nx hw (by simp[aX];omega) ⟨j4 (yD (nD _ (dG hs))) yE,by simp⟩ (by simp))
  ·subst h1;refine go ?_;refine gG (λh2=>?_) (λh2=>?_)
   ·have hno:¬dD ws:=hI.bad hw (by simp[aX,h2]);refine go ?_;refine bM (dP (false=true) (ah aW (.slice none 0 0) [([],false)])) (λw hw e=>by cases e) ?_;exact av ⟨.slice none 0 0,false,[]⟩ (hv:=rfl) (hp:=⟨⟨(λe=>by cases e),λh=>absurd h hno⟩,(λe=>by cases e)⟩)
   refine go ?_;refine aJ rfl (λh3=>?_) (λh3=>?_)
   rotate_left
   ·have hno:¬dD ws:=hI.bad hw (by simp[aX];omega);refine go ?_;refine bM (dP (false=true) (ah aW (.slice none 0 0) [([],false)])) (λw hw e=>by cases e) ?_;exact av ⟨.slice none 0 0,false,[]⟩ (hv:=rfl) (hp:=⟨⟨(λe=>by cases e),λh=>absurd h hno⟩,(λe=>by cases e)⟩)
   refine go ?_;intro FK;refine go ?_;intro XN;refine go ?_;refine FB (b:=FK) ⟨2,⟨⟨[]⟩⟩,n,0⟩ ?_;refine gX aW (v:=v) (aa:=L) ([⟨2,⟨⟨[]⟩⟩,n,0⟩],false) (.slice (some ⟨FK,0,some 0⟩) 1 1) ⟨by omega,by omega,by omega⟩ (λv'=>?_);refine jv aW (v:=v') λa c e=>?_;subst e;refine go ?_;exact bC (k+1,.slice a _ c,L++[(([⟨2,⟨⟨[]⟩⟩,n,0⟩],false),.slice (some ⟨FK,0,some 0⟩) 1 1)]) (by show ws.length - (k+1)<ws.length - k;omega) (hI.nx hw (by simp[aX];omega) ⟨j4 (.inr (.inr ⟨n,h2,h3,rfl⟩)) yE,by simp⟩ (by simp))
 have yG:k=ws.length:=by omega
 subst yG;have hfl:=hI.fl;rw[jc]at hfl;by_cases hL1:L.length=1
 rotate_left
 ·have hno:¬dD ws:=λh=>by
   have:=h.fl;rw[hfl]at this;have:=congrArg List.length (Option.some.inj this);rw[lJ]at this;exact hL1 this
  refine jv aW (v:=v) λa c e=>?_;subst e;refine go ?_;refine gG (λh1=>?_) (λh1=>?_)
  ·omega
  refine go ?_;refine gG (λh2=>?_) (λh2=>?_)
  rotate_left
  ·omega
  refine go ?_;refine(TB rfl rfl rfl rfl rfl (by repeat (first|with_reducible exact ak.here|with_reducible apply ak.there)) rfl (λr hr=>by rw[dH.1 hr];rfl)).h ?_;refine go ?_;refine bM (dP (false=true) (ah aW (.slice a L.length c) [([],false)])) (λw hw e=>by cases e) ?_;exact av ⟨.slice a L.length c,false,[]⟩ (hv:=rfl) (hp:=⟨⟨(λe=>by cases e),λh=>absurd h hno⟩,(λe=>by cases e)⟩)
 obtain⟨p,rfl⟩:∃p,L=[p]:=by
  match L,hL1 with
  |[p],_=>exact⟨p,rfl⟩
 obtain⟨a1,n1,c1,e1⟩:=hI.sl p (dH.2 rfl);have ok1:=hI.ok p (dH.2 rfl);obtain⟨⟨t1,g1⟩,v1⟩:=p;dsimp only at e1 ok1;subst e1
 have ht1:t1.length<=2048:=by have:jC [(((t1,g1),Value.slice a1 n1 c1):jN)]=t1.length:=by simp[jC]
                              omega
 refine oh aW (v:=v) (aa:=[((t1,g1),.slice a1 n1 c1)]) (by simp) λb f c r hf hr hc e=>?_;subst e;rw[show aO aW [((t1,g1),.slice a1 n1 c1)]++r=.slice a1 n1 c1::.bool g1::r from rfl];refine go ?_;refine gG (λh1=>?_) (λh1=>?_)
 ·omega
 refine go ?_;rw[show(Value.slice a1 n1 c1::Value.bool g1::r)=aO aW [((t1,g1),.slice a1 n1 c1)]++r from rfl];refine vL aW (aa:=[((t1,g1),.slice a1 n1 c1)]) (b:=b) (f:=f) (c:=c) (m:=1) (r:=r) rfl hf hr hc ?_;refine dB (pX aW (v:=.slice (some ⟨b,0,some f⟩) 1 c) (aa:=[((t1,g1),.slice a1 n1 c1)])) (h:=?_);have hiff:(!g1)=true↔dD ws:=by
  constructor
  ·intro h;exact⟨hl,by rw[hfl];show some [g1]=_;cases g1<;>simp_all⟩
  ·intro h;have:=h.fl;rw[hfl]at this;have:=Option.some.inj this;cases g1
   ·rfl
   ·cases this
 refine bM (dP ((!g1)=true) (ah aW (.slice (some ⟨b,0,some f⟩) 1 c) [(t1,false)])) (λw hw e=>?_) ?_
 ·have:g1=false:=by cases g1<;>simp_all
  subst this;exact hw (ah aW (.slice (some ⟨b,0,some f⟩) 1 c) [(t1,false)]) (aT ..)
 exact av ⟨.slice (some ⟨b,0,some f⟩) 1 c,!g1,t1⟩ (hv:=rfl) (hp:=⟨hiff,λ_=>⟨ok1,ht1⟩⟩)
