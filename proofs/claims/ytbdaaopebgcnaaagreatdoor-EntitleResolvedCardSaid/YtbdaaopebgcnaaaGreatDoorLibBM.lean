/-
  The parts of a program.
-/
import Derived.Test.YtbdaaopebgcnaaaGreatDoorLibAM
set_option linter.all false
set_option maxRecDepth 10000
set_option maxHeartbeats 4000000
namespace Go.Proofs.YtbdaaopebgcnaaaGreatDoor
open Go.Ideal Rk
noncomputable def Ra:dW:=⟨205,[(.cell1 2),(.tmp 3)],(.seq (kO [kS 2 (.new [vS] 151),kS 3 (.aX kF)]) (.seq (kO [kS 4 (.aX (.func 120))]) (.seq (kO [kS 5 (.aX (.func 124))]) (.seq (kO [kM 13 4,⟨⟨(some 14),none,(.call 13 [(.const (.string ⟨⟨[43]⟩⟩))])⟩,[]⟩,kM 15 4,⟨⟨(some 16),none,(.call 15 [(.const (.string ⟨⟨[45]⟩⟩))])⟩,[]⟩,kM 17 4,⟨⟨(some 18),none,(.call 17 [(.const (.string ⟨⟨[42]⟩⟩))])⟩,[]⟩,kM 19 4,⟨⟨(some 20),none,(.call 19 [(.const (.string ⟨⟨[47]⟩⟩))])⟩,[]⟩,kM 21 5,⟨⟨(some 22),none,(.call 21 [(.const (.string ⟨⟨[109,105,110]⟩⟩))])⟩,[]⟩,kM 23 5,⟨⟨(some 24),none,(.call 23 [(.const (.string ⟨⟨[109,97,120]⟩⟩))])⟩,[]⟩,⟨⟨(some 25),none,(.build [.nilFunc,.nilFunc,.nilFunc,.nilFunc,.nilFunc,.nilFunc,.nilFunc,.nilFunc,.nilFunc,.nilFunc] [⟨3,⟨1,14⟩⟩,⟨4,⟨1,16⟩⟩,⟨5,⟨1,18⟩⟩,⟨6,⟨1,20⟩⟩,⟨7,⟨1,22⟩⟩,⟨8,⟨1,24⟩⟩,⟨9,⟨1,(.func 127)⟩⟩])⟩,[]⟩,kS 6 (.new [.nilFunc,.nilFunc,.nilFunc,.nilFunc,.nilFunc,.nilFunc,.nilFunc,.nilFunc,.nilFunc,.nilFunc] 175),kN (.store 10 6 25)]) (.seq (kO [kS 26 (.zY (.func 128) [] [2]),kS 7 (.aX 26)]) (.seq (.seq (kO [kM 27 0,kS 28 (.iN 27),kS 29 (.mv (kI 0))]) (.block 0 (.loop (.seq (kO [kS 30 (.bin .lss 3 29 28)]) (.seq (.cond 30 .skip (.exit 0)) (.seq (.block 1 (.seq (kO [kS 31 (.fE 2 27 29),kS 32 (.lS 2 31),kS 9 (.new [vI,vI] 103),kN (.store 2 9 32)]) (.block 2 (.seq (kO [kS 34 (.di 0 9),kS 35 (.aH 34),kS 36 (.bin .eql 3 35 (kI 1)),kM 37 36,kG 38 37 (.di 1 9),kG 39 37 (.aH 38),kG 40 37 (.bin .geq 3 39 (kI 0)),kS 41 (.pick 37 40 kF),kM 42 41,kG 43 42 (.di 1 9),kG 44 42 (.aH 43),kG 45 42 (.bin .leq 3 44 (kI 1048576)),kS 46 (.pick 42 45 kF),kS 33 (.aX 46)]) (.cond 33 (kO [kS 47 (.aH 2),kS 48 (.di 1 9),kS 49 (.aH 48),⟨⟨(some 50),none,(.build [vI,vE,vI,vI] [⟨0,⟨1,(kI 2)⟩⟩,⟨2,⟨1,49⟩⟩])⟩,[]⟩,⟨⟨(some 51),none,(.dV 172 1 [vI,vE,vI,vI] [⟨0,⟨4,50⟩⟩])⟩,[]⟩,⟨⟨(some 52),none,(.build [vS,(.bool false)] [⟨0,⟨1,51⟩⟩])⟩,[]⟩,⟨⟨(some 53),none,(.dV 157 1 [vS,(.bool false)] [⟨0,⟨2,52⟩⟩])⟩,[]⟩,kS 54 (.append 157 2 32 47 53),kN (.store 1 2 54)]) (.seq (.ops [56,57,58,59,60,61,62,63,64,65,66,67,68,69,70,55] [kS 56 (.di 0 9),kS 57 (.aH 56),kS 58 (.bin .eql 3 57 (kI 2)),kM 59 58,kG 60 59 (.di 1 9),kG 61 59 (.aH 60),kG 62 59 (.bin .geq 3 61 (kI 0)),kS 63 (.pick 59 62 kF),kM 64 63,kG 65 64 (.di 1 9),kG 66 64 (.aH 65),⟨⟨(some 67),(some ⟨64,true⟩),(kC 83 [])⟩,[⟨(some 66),(some ⟨64,true⟩),(.aH 65)⟩]⟩,kG 68 64 (.iN 67),kG 69 64 (.bin .lss 3 66 68),kS 70 (.pick 64 69 kF),kS 55 (.aX 70)]) (.cond 55 (.ops [71,72,73,74,75,76,77,78,79,80] [kS 71 (.aH 2),kS 73 (.di 1 9),kS 74 (.aH 73),⟨⟨(some 72),none,(kC 83 [])⟩,[⟨(some 74),none,(.aH 73)⟩,⟨(some 71),none,(.aH 2)⟩]⟩,kS 75 (.fE 1 72 74),kS 76 (.aH 75),⟨⟨(some 77),none,(kC 126 [76])⟩,[⟨(some 71),none,(.aH 2)⟩]⟩,⟨⟨(some 78),none,(.build [vS,(.bool false)] [⟨0,⟨1,77⟩⟩])⟩,[]⟩,⟨⟨(some 79),none,(.dV 157 1 [vS,(.bool false)] [⟨0,⟨2,78⟩⟩])⟩,[]⟩,kS 80 (.append 157 2 32 71 79),kN (.store 1 2 80)]) (.seq (kO [kS 82 (.di 0 9),kS 83 (.aH 82),kS 84 (.bin .eql 3 83 (kI 10)),kM 85 84,kG 86 85 (.di 1 9),kG 87 85 (.aH 86),kG 88 85 (.bin .eql 3 87 (kI 0)),kS 89 (.pick 85 88 kF),kM 90 89,kG 91 90 (.aH 2),kG 92 90 (.iN 91),kG 93 90 (.bin .gtr 3 92 (kI 2)),kS 94 (.pick 90 93 kF),kM 95 94,kG 96 95 (.aH 2),kG 97 95 (.aH 2),kG 98 95 (.iN 97),kG 99 95 (.bin .sub 3 98 (kI 3)),kG 100 95 (.fE 2 96 99),kG 101 95 (.di 1 100),kG 102 95 (.aH 101),kS 103 (.pick 95 102 kF),kM 104 103,kG 105 104 (.mv 7),kG 106 104 (.call 105 [(kI 2)]),kS 107 (.pick 104 106 kF),kS 81 (.aX 107)]) (.cond 81 (.seq (kO [kS 108 (.aH 2),kS 109 (.iN 108),kS 110 (.bin .sub 3 109 (kI 3)),kS 10 (.aX 110)]) (.seq (.ops [111,112,113,114,115,116,117,118,119,120,121,122,123,124,125,126,127,128,129,130,131,132,133,134,11] [kS 113 (.aH 2),kM 114 10,kS 115 (.fE 2 113 114),kS 116 (.di 0 115),kS 117 (.aH 116),kS 119 (.aH 2),kM 120 10,kS 121 (.bin .add 3 120 (kI 1)),kS 122 (.fE 2 119 121),kS 123 (.di 0 122),kS 124 (.aH 123),kS 126 (.aH 2),kM 127 10,kS 128 (.bin .add 3 127 (kI 2)),kS 129 (.fE 2 126 128),kS 130 (.di 0 129),kS 131 (.aH 130),⟨⟨(some 111),none,(kC 123 [(.const (.string ⟨⟨[40]⟩⟩))])⟩,[⟨(some 131),none,(.aH 130)⟩,⟨(some 126),none,(.aH 2)⟩,⟨(some 124),none,(.aH 123)⟩,⟨(some 119),none,(.aH 2)⟩,⟨(some 117),none,(.aH 116)⟩,⟨(some 113),none,(.aH 2)⟩]⟩,⟨⟨(some 112),none,(kC 126 [(.const (.string ⟨⟨[105,102]⟩⟩))])⟩,[⟨(some 131),none,(.aH 130)⟩,⟨(some 126),none,(.aH 2)⟩,⟨(some 124),none,(.aH 123)⟩,⟨(some 119),none,(.aH 2)⟩,⟨(some 117),none,(.aH 116)⟩,⟨(some 113),none,(.aH 2)⟩]⟩,⟨⟨(some 118),none,(kC 126 [(.const (.string ⟨⟨[116,104,101,110]⟩⟩))])⟩,[⟨(some 131),none,(.aH 130)⟩,⟨(some 126),none,(.aH 2)⟩,⟨(some 124),none,(.aH 123)⟩,⟨(some 119),none,(.aH 2)⟩,⟨(some 117),none,(.aH 116)⟩,⟨(some 113),none,(.aH 2)⟩]⟩,⟨⟨(some 125),none,(kC 126 [(.const (.string ⟨⟨[101,108,115,101]⟩⟩))])⟩,[⟨(some 131),none,(.aH 130)⟩,⟨(some 126),none,(.aH 2)⟩,⟨(some 124),none,(.aH 123)⟩,⟨(some 119),none,(.aH 2)⟩,⟨(some 117),none,(.aH 116)⟩,⟨(some 113),none,(.aH 2)⟩]⟩,⟨⟨(some 132),none,(kC 123 [(.const (.string ⟨⟨[41]⟩⟩))])⟩,[⟨(some 131),none,(.aH 130)⟩,⟨(some 126),none,(.aH 2)⟩,⟨(some 124),none,(.aH 123)⟩,⟨(some 119),none,(.aH 2)⟩,⟨(some 117),none,(.aH 116)⟩,⟨(some 113),none,(.aH 2)⟩]⟩,⟨⟨(some 133),none,(.dV 155 8 [vS,vS,vS,vS,vS,vS,vS,vS] [⟨0,⟨1,111⟩⟩,⟨1,⟨1,112⟩⟩,⟨2,⟨1,117⟩⟩,⟨3,⟨1,118⟩⟩,⟨4,⟨1,124⟩⟩,⟨5,⟨1,125⟩⟩,⟨6,⟨1,131⟩⟩,⟨7,⟨1,132⟩⟩])⟩,[]⟩,kS 134 (kC 122 [133]),kS 11 (.aX 134)]) (kO [kS 135 (.aH 2),kM 136 10,kS 137 (.nD 2 135 none (some 136) none),kM 138 11,⟨⟨(some 139),none,(.build [vS,(.bool false)] [⟨0,⟨1,138⟩⟩])⟩,[]⟩,⟨⟨(some 140),none,(.dV 157 1 [vS,(.bool false)] [⟨0,⟨2,139⟩⟩])⟩,[]⟩,kS 141 (.append 157 2 32 137 140),kN (.store 1 2 141)]))) (.seq (kO [kS 143 (.di 0 9),kS 144 (.aH 143),kS 145 (.bin .geq 3 144 (kI 3)),kM 146 145,kG 147 146 (.di 0 9),kG 148 146 (.aH 147),kG 149 146 (.bin .lss 3 148 (kI 10)),kS 150 (.pick 146 149 kF),kM 151 150,kG 152 151 (.di 1 9),kG 153 151 (.aH 152),kG 154 151 (.bin .eql 3 153 (kI 0)),kS 155 (.pick 151 154 kF),kM 156 155,kG 157 156 (.mv 7),kG 158 156 (.call 157 [(kI 2)]),kS 159 (.pick 156 158 kF),kS 142 (.aX 159)]) (.cond 142 (.seq (kO [kS 160 (.aH 2),kS 161 (.iN 160),kS 162 (.bin .sub 3 161 (kI 2)),kS 12 (.aX 162)]) (.ops [163,164,165,166,167,168,169,170,171,172,173,174,175,176,177,178,179,180,181,182,183,184,185,186,187] [kS 163 (.aH 2),kM 164 12,kS 165 (.nD 2 163 none (some 164) none),kS 166 (.di 0 9),kS 167 (.aH 166),kS 168 (.CP 10 1 6 167),kS 169 (.aH 168),kS 170 (.aH 2),kM 171 12,kS 172 (.fE 2 170 171),kS 173 (.di 0 172),kS 174 (.aH 173),kS 175 (.aH 2),kM 176 12,kS 177 (.bin .add 3 176 (kI 1)),kS 178 (.fE 2 175 177),kS 179 (.di 0 178),kS 180 (.aH 179),kS 182 (.di 0 9),kS 183 (.aH 182),kS 184 (.bin .eql 3 183 (kI 9)),⟨⟨(some 181),none,(.call 169 [174,180])⟩,[⟨(some 183),none,(.aH 182)⟩,⟨(some 163),none,(.aH 2)⟩]⟩,⟨⟨(some 185),none,(.build [vS,(.bool false)] [⟨0,⟨1,181⟩⟩,⟨1,⟨1,184⟩⟩])⟩,[]⟩,⟨⟨(some 186),none,(.dV 157 1 [vS,(.bool false)] [⟨0,⟨2,185⟩⟩])⟩,[]⟩,kS 187 (.append 157 2 32 165 186),kN (.store 1 2 187)])) (.seq (kO [kN (.store 1 2 (.const vS)),kS 3 (.aX kF)]) .ret)))))))))))) (kO [kS 188 (.bin .add 3 29 (kI 1)),kM 29 188]))))))) (.seq (.ops [189,190,191,192,193,194,195,196,197,198,199,200,201,202,203,204,3] [kS 189 (.aH 2),kM 190 0,kS 191 (.iN 190),kS 192 (.bin .leq 3 191 (kI 256)),kM 193 192,kG 194 193 (.aH 2),kG 195 193 (.iN 194),kG 196 193 (.bin .eql 3 195 (kI 1)),kS 197 (.pick 193 196 kF),kM 198 197,kG 199 198 (.aH 2),kG 200 198 (.fE 2 199 (kI 0)),kG 201 198 (.di 1 200),kG 202 198 (.aH 201),kG 203 198 (.un .not 202),kS 204 (.pick 198 203 kF),⟨⟨none,none,(.store 1 2 189)⟩,[⟨(some 202),(some ⟨198,true⟩),(.aH 201)⟩]⟩,kS 3 (.aX 204)]) .ret)))))))⟩
theorem acf:jD Tryz.prog 109=some Ra:=by kernel_rfl
def fH(c:Prop)(f:aB):aB:=⟨λw=>c->f.p w,λa h e=>f.mono a (h e)⟩
def iw:Enc eB:=⟨2,Unit,λx _=>[.int .i64 x.op,.int .i64 x.n],λ_ _=>[],λ_ _=>rfl⟩
structure PtY where
 v:Value
 ok:Bool
 ts:List Tok
def lM(L:List l7):Nat:=(L.map λp=>p.1.1.length).sum
structure uq(ws:List eB)(k:Nat)(L:List l7):Prop where
 kl:k<=ws.length
 fl:kg (ws.take k)=some (ni L)
 ok:∀p∈L,kX p.1.1
 tot:lM L<=6*k
 sl:∀p∈L,∃a n c,p.2=Value.slice a n c
theorem uq.bad{ws:List eB}{k:Nat}{L:List l7}{w:eB}(h:uq ws k L)(hw:ws[k]? =some w)(hn:bT (ni L) w=none):¬fw ws:=λhp=>by
 have:=hp.fl;rw[JC (k:=k+1) (by rw[Fa hw h.fl,hn])]at this;cases this
theorem Rb(L M:List l7):lM (L++M)=lM L+lM M:=by unfold lM;rw[dM,CJ]
theorem Kl(L:List l7)(k:Nat):lM L=lM (L.take k)+lM (L.drop k):=by rw[<- Rb,xU]
theorem uq.next{ws:List eB}{k:Nat}{L:List l7}{w:eB}(h:uq ws k L)(hw:ws[k]? =some w){m:Nat}{ts:List Tok}{c:Bool}{a:Option Addr}{n cp:Nat}(hc:bT (ni L) w=some ((ni L).take m++[c]))(hok:kX ts)(ht:ts.length<=lM (L.drop m)+6):
 uq ws (k+1) (L.take m++[(((ts,c),Value.slice a n cp):l7)]):=by
 refine⟨(dU.1 hw).1,?_,λp hp=>?_,?_,λp hp=>?_⟩
 ·rw[Fa hw h.fl,hc];unfold ni;rw[dM,List.map_take];rfl
 ·rcases fI.1 hp with hp|hp
  ·exact h.ok p (xO hp)
  ·rw[cB.1 hp];exact hok
 ·have h1:=Kl L m;have h2:=h.tot;rw[Rb];have h3:lM [((ts,c),Value.slice a n cp)]=ts.length:=by simp[lM]
  omega
 ·rcases fI.1 hp with hp|hp
  ·exact h.sl p (xO hp)
  ·rw[cB.1 hp];exact⟨_,_,_,rfl⟩
theorem uq.nx{ws:List eB}{k:Nat}{L:List l7}{w:eB}(h:uq ws k L)(hw:ws[k]? =some w){ts:List Tok}{a:Option Addr}{n cp:Nat}(hc:bT (ni L) w=some (ni L++[false]))(hok:kX ts)(ht:ts.length<=6):
 uq ws (k+1) (L++[(((ts,false),Value.slice a n cp):l7)]):=by
 have:=h.next hw (m:=L.length) (ts:=ts) (c:=false) (a:=a) (n:=n) (cp:=cp) (by rw[rH (by rw[oH];exact aC _)];exact hc) hok (by omega)
 rwa [rH (aC _)]at this
def Km(k:Nat):Fn:=if k<=6 then .func 121 else if k<=8 then .func 125 else .func 127
def Kn(b1 b2 b3 b4 b5 b6 k:Nat):List Value:=if k=3 then[ptr' b1]else if k=4 then[ptr' b2]else if k=5 then[ptr' b3]else if k=6 then[ptr' b4]else if k=7 then[ptr' b5]else if k=8 then[ptr' b6]else[]
def Ko(b1 b2 b3 b4 b5 b6:Nat):List Value:=[.nilFunc,.nilFunc,.nilFunc,.func (.func 121) ⟨[]⟩ ⟨[ptr' b1]⟩,.func (.func 121) ⟨[]⟩ ⟨[ptr' b2]⟩,.func (.func 121) ⟨[]⟩ ⟨[ptr' b3]⟩,.func (.func 121) ⟨[]⟩ ⟨[ptr' b4]⟩,
 .func (.func 125) ⟨[]⟩ ⟨[ptr' b5]⟩,.func (.func 125) ⟨[]⟩ ⟨[ptr' b6]⟩,.func (.func 127) ⟨[]⟩ ⟨[]⟩]
theorem ach{b1 b2 b3 b4 b5 b6 k:Nat}(h3:3<=k)(h9:k<=9):gH (Ko b1 b2 b3 b4 b5 b6) k=some (.func (Km k) ⟨[]⟩ ⟨Kn b1 b2 b3 b4 b5 b6 k⟩):=by
 have:k=3\/k=4\/k=5\/k=6\/k=7\/k=8\/k=9:=by omega
 rcases this with rfl|rfl|rfl|rfl|rfl|rfl|rfl<;>rfl
theorem aci{b1 b2 b3 b4 b5 b6 k:Nat}{va vb:Value}{xs ys:List Tok}(h3:3<=k)(h9:k<=9)(hx:kX xs)(hy:kX ys)(hxl:xs.length<=2048)(hyl:ys.length<=2048):
 aT Tryz.prog (Km k) [va,vb] (Kn b1 b2 b3 b4 b5 b6 k) [] [bU b6 0 [.string ⟨⟨[109,97,120]⟩⟩],bU b5 0 [.string ⟨⟨[109,105,110]⟩⟩],bU b4 0 [.string ⟨⟨[47]⟩⟩],bU b3 0 [.string ⟨⟨[42]⟩⟩],bU b2 0 [.string ⟨⟨[45]⟩⟩],bU b1 0 [.string ⟨⟨[43]⟩⟩],ae dD va xs,ae dD vb ys]
  (λy:FM=>y.1) (λ_=>[]) (λy=>[ae dD y.1 y.2]) (λy=>kX y.2/\y.2.length<=xs.length+ys.length+4):=by
 have:k=3\/k=4\/k=5\/k=6\/k=7\/k=8\/k=9:=by omega
 rcases this with rfl|rfl|rfl|rfl|rfl|rfl|rfl
 ·exact(FN (b:=b1) (s:=⟨⟨[43]⟩⟩) (by simp[lK]) hx hy hxl hyl).facts (by simp)
 ·exact(FN (b:=b2) (s:=⟨⟨[45]⟩⟩) (by simp[lK]) hx hy hxl hyl).facts (by simp)
 ·exact(FN (b:=b3) (s:=⟨⟨[42]⟩⟩) (by simp[lK]) hx hy hxl hyl).facts (by simp)
 ·exact(FN (b:=b4) (s:=⟨⟨[47]⟩⟩) (by simp[lK]) hx hy hxl hyl).facts (by simp)
 ·exact(Q7 (b:=b5) (s:=⟨⟨[109,105,110]⟩⟩) (by simp[ru]) hx hy hxl hyl).facts (by simp)
 ·exact(Q7 (b:=b6) (s:=⟨⟨[109,97,120]⟩⟩) (by simp[ru]) hx hy hxl hyl).facts (by simp)
 ·exact(ab8 hx hy hxl hyl).facts (by simp)
theorem acj{vp:Value}{ws:List eB}(hl:ws.length<=256):aT Tryz.prog (.func 109) [vp] [] [] [ae iw vp ws] (λy:PtY=>.tuple ⟨[y.v,.bool y.ok]⟩) (λ_=>[]) (λy=>[fH (y.ok=true) (ae bP y.v [(y.ts,false)])])
 (λy=>(y.ok=true↔fw ws)/\(y.ok=true->kX y.ts/\y.ts.length<=2048)):=by
 refine aV Ra acf λB w0=>?_;refine go ?_;intro bL;refine go ?_;refine aG (FO (s:=⟨⟨[43]⟩⟩)) (next:=λb1 _=>?_);refine go ?_;refine aG (FO (s:=⟨⟨[45]⟩⟩)) (next:=λb2 _=>?_);refine go ?_;refine aG (FO (s:=⟨⟨[42]⟩⟩)) (next:=λb3 _=>?_);refine go ?_;refine aG (FO (s:=⟨⟨[47]⟩⟩)) (next:=λb4 _=>?_);refine go ?_;refine aG (Q8 (s:=⟨⟨[109,105,110]⟩⟩)) (next:=λb5 _=>?_);refine go ?_;refine aG (Q8 (s:=⟨⟨[109,97,120]⟩⟩)) (next:=λb6 _=>?_);refine go ?_;intro bA;refine go ?_;refine cu (fT (b:=bA) (cs:=Ko b1 b2 b3 b4 b5 b6)) (hk:=.here) (h:=?_);refine Pv bP ?_;refine dQ (λy:Nat×Value×List l7=>ws.length - y.1) (λy=>[(29,.int .i64 (y.1:Int))]) (λy=>[pt bL (.cells [y.2.1]),sk bP y.2.1 y.2.2]) (λ_=>[]) (λy=>uq ws y.1 y.2.2) (0,.slice none 0 0,[]) ⟨dY _,rfl,(λp hp=>by cases hp),dY _,(λp hp=>by cases hp)⟩ (hk:=by repeat (first|exact aL.nil|(apply aL.cons;(focus (repeat (first|exact ah.here|apply ah.there)))))) (body:=?_);rintro⟨k,v,L⟩ hI;dsimp only at hI⊢;have hkl:=hI.kl;have htot:=hI.tot;have xk:L.length<=256:=by have:=Fb k (by rw[fB];omega) hI.fl;rw[oH]at this;omega
 refine go ?_;refine aM rfl (λh0=>?_) (λh0=>?_)
 ·refine go ?_;refine eX iw (k:=k) (next:=λbw ow w _ hw=>?_);refine go ?_;intro b9;obtain⟨op,n⟩:=w;dsimp only;refine go ?_;refine gG (λh1=>?_) (λh1=>?_)
  ·refine go ?_;refine gG (λh2=>?_) (λh2=>?_)
   ·refine go ?_;refine gG (λh3=>?_) (λh3=>?_)
    ·refine go ?_;refine gG (λh4=>?_) (λh4=>?_)
     ·have hno:¬fw ws:=hI.bad hw (by simp[bT,h1,h2,h3,h4]);refine go ?_;refine bX (fH (false=true) (ae bP (.slice none 0 0) [([],false)])) (λw hw e=>by cases e) ?_;exact aj ⟨.slice none 0 0,false,[]⟩ (hv:=rfl) (hp:=⟨⟨(λe=>by cases e),λh=>absurd h hno⟩,(λe=>by cases e)⟩)
     refine go ?_;refine gG (λh5=>?_) (λh5=>?_)
     ·have hno:¬fw ws:=hI.bad hw (by simp[bT,h1,h2,h3,h5]);refine go ?_;refine bX (fH (false=true) (ae bP (.slice none 0 0) [([],false)])) (λw hw e=>by cases e) ?_;exact aj ⟨.slice none 0 0,false,[]⟩ (hv:=rfl) (hp:=⟨⟨(λe=>by cases e),λh=>absurd h hno⟩,(λe=>by cases e)⟩)
     refine go ?_;refine gG (λh6=>?_) (λh6=>?_)
     ·have hno:¬fw ws:=hI.bad hw (by simp[bT,h1,h2,h3,h4,h6]);refine go ?_;refine bX (fH (false=true) (ae bP (.slice none 0 0) [([],false)])) (λw hw e=>by cases e) ?_;exact aj ⟨.slice none 0 0,false,[]⟩ (hv:=rfl) (hp:=⟨⟨(λe=>by cases e),λh=>absurd h hno⟩,(λe=>by cases e)⟩)
     subst h6;refine go ?_;refine aG (Q9 (bL:=bL) (v:=v) (L:=L) (by omega) hI.sl) (next:=λ_ _=>?_);refine go ?_;refine aM rfl (λh7=>?_) (λh7=>?_)
     rotate_left
     ·have hno:¬fw ws:=hI.bad hw (by unfold uo at h7;simp[bT,h1,h2,h3,h4,h5];exact λa b c=>h7 ⟨a,b,c⟩);refine go ?_;refine bX (fH (false=true) (ae bP (.slice none 0 0) [([],false)])) (λw hw e=>by cases e) ?_;exact aj ⟨.slice none 0 0,false,[]⟩ (hv:=rfl) (hp:=⟨⟨(λe=>by cases e),λh=>absurd h hno⟩,(λe=>by cases e)⟩)
     have hf2:2<=L.length:=by have:=h7.1;rw[oH]at this;exact this
     refine go ?_;refine BC bP (v:=v) (aa:=L) ?_;refine go ?_;rw[show(L.length:Int) - 2=((L.length - 2:Nat):Int)by omega];refine xm bP (v:=v) (aa:=L) (by omega) λb f c r hf hr hc e=>?_;subst e;refine(bV rfl rfl (EX (lo:=0) (hi:=L.length - 2) rfl hf (by decide) (.inl ⟨rfl,rfl⟩) (.inr ⟨_,rfl,rfl⟩) (dY _) (by omega))).h ?_;rw[show Value.slice (some ⟨b,0+0*bP.n,some f⟩) (L.length - 2 - 0) (c - 0)=.slice (some ⟨b,0,some f⟩) (L.length - 2) c by rw[og,qg,qg]];obtain⟨q,rfl⟩:=wB (show 0<=op by omega);refine go ?_;refine(pM (b:=bA) (o:=0) (j:=(q:Int).toNat*1) (cs:=Ko b1 b2 b3 b4 b5 b6) (v:=.func (Km q) ⟨[]⟩ ⟨Kn b1 b2 b3 b4 b5 b6 q⟩) rfl rfl rfl (by repeat (first|with_reducible exact aS .. |with_reducible apply bW)) (by rw[Int.toNat_natCast,jB];exact ach (by omega) (by omega))).h ?_;have hp1:L[L.length - 2]? =some (L[L.length - 2]'(by omega)):=bH _;have hp2:L[L.length - 1]? =some (L[L.length - 1]'(by omega)):=bH _;generalize L[L.length - 2]'(by omega)=p1 at hp1;generalize L[L.length - 1]'(by omega)=p2 at hp2;obtain⟨a1,n1,c1,e1⟩:=hI.sl p1 (dA hp1);obtain⟨a2,n2,c2,e2⟩:=hI.sl p2 (dA hp2);have ok1:=hI.ok p1 (dA hp1);have BV:=hI.ok p2 (dA hp2);obtain⟨⟨t1,g1⟩,v1⟩:=p1;obtain⟨⟨t2,g2⟩,v2⟩:=p2;dsimp only at e1 e2 ok1 BV;subst e1 e2;have htl:lM (L.drop (L.length - 2))=t1.length+t2.length:=by
      have ed:L.drop (L.length - 2)=[((t1,g1),.slice a1 n1 c1),((t2,g2),.slice a2 n2 c2)]:=by
       apply jX;intro j;rw[iV];match j with
       |0=>exact hp1
       |1=>rw[show L.length - 2+1=L.length - 1 by omega];exact hp2
       |j+2=>rw[iX (by omega)];rfl
      rw[ed];simp[lM]
     have htk:=Kl L (L.length - 2);refine BD bP (aa:=L) hp1 ?_;refine BD bP (aa:=L) hp2 ?_;refine go ?_;refine mV (o:=0+(L.length - 2)*2+0) (.slice a1 n1 c1) (pV (E:=bP) (j:=0) hp1 rfl (by show _=(L.length - 2)*2+0;omega)) ?_;refine go ?_;refine mV (o:=0+(((L.length - 2:Nat):Int)+1).toNat*2+0) (.slice a2 n2 c2) (pV (E:=bP) (j:=0) hp2 rfl (by show _=(L.length - 1)*2+0;omega)) ?_;refine go ?_;refine aG (aci (b1:=b1) (b2:=b2) (b3:=b3) (b4:=b4) (b5:=b5) (b6:=b6) (k:=q) (xs:=t1) (ys:=t2) (by omega) (by omega) ok1 BV (by omega) (by omega)) (next:=λy hy=>?_);obtain⟨yv,yt⟩:=y;dsimp only at hy⊢;refine eU (E:=dD) (v:=yv) (xs:=yt) (by simp) λay cy ey=>?_;subst ey;refine go ?_;intro agi;refine Ju bP (aa:=L) (b:=b) (f:=f) (c:=c) (m:=L.length - 2) (r:=r) (by omega) hf hr hc ?_;refine lX bP (v:=.slice (some ⟨b,0,some f⟩) (L.length - 2) c) (aa:=L.take (L.length - 2)) (yt,decide ((q:Int)=9)) (.slice ay yt.length cy) ⟨by rw[fB];omega,by rw[fB];omega,by rw[fB];omega⟩ (λv'=>?_);refine qV bP (v:=v') λa c' e=>?_;subst e;refine go ?_;refine aY (k+1,.slice a _ c',L.take (L.length - 2)++[((yt,decide ((q:Int)=9)),.slice ay yt.length cy)]) (by show ws.length - (k+1)<ws.length - k;omega) (hI.next hw ?_ hy.1 (by have:=hy.2;omega));obtain⟨q1,q2,q3⟩:=h7;simp only[bT,oH]at q1 q2 q3⊢;rw[if_neg h1,if_neg h2,if_neg (by omega),if_neg h3,if_pos ⟨h4,h5⟩,if_pos ⟨q1,q2,q3⟩]
    subst h3;refine go ?_;refine gG (λh6=>?_) (λh6=>?_)
    ·have hno:¬fw ws:=hI.bad hw (by simp[bT,h6]);refine go ?_;refine bX (fH (false=true) (ae bP (.slice none 0 0) [([],false)])) (λw hw e=>by cases e) ?_;exact aj ⟨.slice none 0 0,false,[]⟩ (hv:=rfl) (hp:=⟨⟨(λe=>by cases e),λh=>absurd h hno⟩,(λe=>by cases e)⟩)
    subst h6;refine go ?_;refine BC bP (v:=v) (aa:=L) ?_;refine go ?_;refine gG (λh7=>?_) (λh7=>?_)
    ·have hno:¬fw ws:=hI.bad hw (by simp[bT,oH];omega);refine go ?_;refine bX (fH (false=true) (ae bP (.slice none 0 0) [([],false)])) (λw hw e=>by cases e) ?_;exact aj ⟨.slice none 0 0,false,[]⟩ (hv:=rfl) (hp:=⟨⟨(λe=>by cases e),λh=>absurd h hno⟩,(λe=>by cases e)⟩)
    refine go ?_;refine BC bP (v:=v) (aa:=L) ?_;refine go ?_;rw[show(L.length:Int) - 3=((L.length - 3:Nat):Int)by omega];refine xm bP (v:=v) (aa:=L) (by omega) λb f c r hf hr hc e=>?_;subst e;have hp3:L[L.length - 3]? =some (L[L.length - 3]'(by omega)):=bH _;have hp1:L[L.length - 2]? =some (L[L.length - 2]'(by omega)):=bH _;have hp2:L[L.length - 1]? =some (L[L.length - 1]'(by omega)):=bH _;generalize L[L.length - 3]'(by omega)=p3 at hp3;generalize L[L.length - 2]'(by omega)=p1 at hp1;generalize L[L.length - 1]'(by omega)=p2 at hp2;obtain⟨a3,n3,c3,e3⟩:=hI.sl p3 (dA hp3);obtain⟨a1,n1,c1,e1⟩:=hI.sl p1 (dA hp1);obtain⟨a2,n2,c2,e2⟩:=hI.sl p2 (dA hp2);have Rc:=hI.ok p3 (dA hp3);have ok1:=hI.ok p1 (dA hp1);have BV:=hI.ok p2 (dA hp2);have xE:=Kk hp3;obtain⟨⟨t3,g3⟩,v3⟩:=p3;obtain⟨⟨t1,g1⟩,v1⟩:=p1;obtain⟨⟨t2,g2⟩,v2⟩:=p2;dsimp only at e1 e2 e3 ok1 BV Rc xE;subst e1 e2 e3;refine go ?_;refine mV (o:=0+(L.length - 3)*2+1) (.bool g3) (pV (E:=bP) (j:=1) hp3 rfl (by show _=(L.length - 3)*2+1;omega)) ?_;refine go ?_;refine gG (λh8=>?_) (λh8=>?_)
    ·have hno:¬fw ws:=hI.bad hw (by simp[bT,oH,xE,h8]);refine go ?_;refine bX (fH (false=true) (ae bP (.slice none 0 0) [([],false)])) (λw hw e=>by cases e) ?_;exact aj ⟨.slice none 0 0,false,[]⟩ (hv:=rfl) (hp:=⟨⟨(λe=>by cases e),λh=>absurd h hno⟩,(λe=>by cases e)⟩)
    refine Jt bP (aa:=L) (b:=b) (f:=f) (c:=c) (m:=L.length) (r:=r) rfl hf hr hc ?_;refine go ?_;refine aG (Q9 (bL:=bL) (v:=.slice (some ⟨b,0,some f⟩) L.length c) (L:=L) (by omega) hI.sl) (next:=λ_ _=>?_);refine go ?_;refine aM rfl (λh9=>?_) (λh9=>?_)
    rotate_left
    ·have hno:¬fw ws:=hI.bad hw (by unfold uo at h9;simp only[oH]at h9;simp[bT,oH];intro a b' c d;exact h9 ⟨by omega,c,d⟩);refine go ?_;refine bX (fH (false=true) (ae bP (.slice none 0 0) [([],false)])) (λw hw e=>by cases e) ?_;exact aj ⟨.slice none 0 0,false,[]⟩ (hv:=rfl) (hp:=⟨⟨(λe=>by cases e),λh=>absurd h hno⟩,(λe=>by cases e)⟩)
    refine go ?_;rw[show(L.length:Int) - 3=((L.length - 3:Nat):Int)by omega];refine xm bP (aa:=L) (by omega) λb' f' c' r' hf' hr' hc' e=>?_;cases e;refine BD bP (aa:=L) hp3 ?_;refine BD bP (aa:=L) hp1 ?_;refine BD bP (aa:=L) hp2 ?_;dsimp only;have hv3:(aK bP L++r')[0+(L.length - 3)*2+0]? =some (.slice a3 n3 c3):=pV (E:=bP) (j:=0) hp3 rfl (by show _=(L.length - 3)*2+0;omega);have hv1:(aK bP L++r')[0+(((L.length - 3:Nat):Int)+1).toNat*2+0]? =some (.slice a1 n1 c1):=pV (E:=bP) (j:=0) hp1 rfl (by show _=(L.length - 2)*2+0;omega);have hv2:(aK bP L++r')[0+(((L.length - 3:Nat):Int)+2).toNat*2+0]? =some (.slice a2 n2 c2):=pV (E:=bP) (j:=0) hp2 rfl (by show _=(L.length - 1)*2+0;omega);have htl:lM (L.drop (L.length - 3))=t3.length+t1.length+t2.length:=by
     have ed:L.drop (L.length - 3)=[((t3,g3),.slice a3 n3 c3),((t1,g1),.slice a1 n1 c1),((t2,g2),.slice a2 n2 c2)]:=by
      apply jX;intro j;rw[iV];match j with
      |0=>exact hp3
      |1=>rw[show L.length - 3+1=L.length - 2 by omega];exact hp1
      |2=>rw[show L.length - 3+2=L.length - 1 by omega];exact hp2
      |j+3=>rw[iX (by omega)];rfl
     rw[ed];simp[lM];omega
    have htk:=Kl L (L.length - 3);refine mV (.slice a3 n3 c3) hv3 ?_;refine go ?_;refine mV (.slice a1 n1 c1) hv1 ?_;refine go ?_;refine mV (.slice a2 n2 c2) hv2 ?_;refine go ?_;refine aG (ul (s:=⟨⟨[40]⟩⟩)) (hs:=by
     intro _ _;repeat (first
      |exact qK
      |refine pO rfl (by repeat (first|with_reducible exact ah.here|with_reducible apply ah.there)) rfl rfl ?_
      |refine mY rfl (by repeat (first|with_reducible exact ah.here|with_reducible apply ah.there)) hv3 rfl ?_
      |refine mY rfl (by repeat (first|with_reducible exact ah.here|with_reducible apply ah.there)) hv1 rfl ?_
      |refine mY rfl (by repeat (first|with_reducible exact ah.here|with_reducible apply ah.there)) hv2 rfl ?_)) (next:=λu1 _=>?_)
    refine go ?_;refine aG (BQ (s:=⟨⟨[105,102]⟩⟩)) (hs:=by
     intro _ _;repeat (first
      |exact qK
      |refine pO rfl (by repeat (first|with_reducible exact ah.here|with_reducible apply ah.there)) rfl rfl ?_
      |refine mY rfl (by repeat (first|with_reducible exact ah.here|with_reducible apply ah.there)) hv3 rfl ?_
      |refine mY rfl (by repeat (first|with_reducible exact ah.here|with_reducible apply ah.there)) hv1 rfl ?_
      |refine mY rfl (by repeat (first|with_reducible exact ah.here|with_reducible apply ah.there)) hv2 rfl ?_)) (next:=λu2 _=>?_)
    refine go ?_;refine aG (BQ (s:=⟨⟨[116,104,101,110]⟩⟩)) (hs:=by
     intro _ _;repeat (first
      |exact qK
      |refine pO rfl (by repeat (first|with_reducible exact ah.here|with_reducible apply ah.there)) rfl rfl ?_
      |refine mY rfl (by repeat (first|with_reducible exact ah.here|with_reducible apply ah.there)) hv3 rfl ?_
      |refine mY rfl (by repeat (first|with_reducible exact ah.here|with_reducible apply ah.there)) hv1 rfl ?_
      |refine mY rfl (by repeat (first|with_reducible exact ah.here|with_reducible apply ah.there)) hv2 rfl ?_)) (next:=λu3 _=>?_)
    refine go ?_;refine aG (BQ (s:=⟨⟨[101,108,115,101]⟩⟩)) (hs:=by
     intro _ _;repeat (first
      |exact qK
      |refine pO rfl (by repeat (first|with_reducible exact ah.here|with_reducible apply ah.there)) rfl rfl ?_
      |refine mY rfl (by repeat (first|with_reducible exact ah.here|with_reducible apply ah.there)) hv3 rfl ?_
      |refine mY rfl (by repeat (first|with_reducible exact ah.here|with_reducible apply ah.there)) hv1 rfl ?_
      |refine mY rfl (by repeat (first|with_reducible exact ah.here|with_reducible apply ah.there)) hv2 rfl ?_)) (next:=λu4 _=>?_)
    refine go ?_;refine aG (ul (s:=⟨⟨[41]⟩⟩)) (hs:=by
     intro _ _;repeat (first
      |exact qK
      |refine pO rfl (by repeat (first|with_reducible exact ah.here|with_reducible apply ah.there)) rfl rfl ?_
      |refine mY rfl (by repeat (first|with_reducible exact ah.here|with_reducible apply ah.there)) hv3 rfl ?_
      |refine mY rfl (by repeat (first|with_reducible exact ah.here|with_reducible apply ah.there)) hv1 rfl ?_
      |refine mY rfl (by repeat (first|with_reducible exact ah.here|with_reducible apply ah.there)) hv2 rfl ?_)) (next:=λu5 _=>?_)
    refine go ?_;intro ack;have z1:=ok1.pos;refine FJ (b:=ack) (m:=8) (ls:=[[fA ⟨⟨[40]⟩⟩],[jf ⟨⟨[105,102]⟩⟩],t3,[jf ⟨⟨[116,104,101,110]⟩⟩],t1,[jf ⟨⟨[101,108,115,101]⟩⟩],t2,[fA ⟨⟨[41]⟩⟩]])
     [([fA ⟨⟨[40]⟩⟩],.slice (some ⟨u1,0,some 0⟩) 1 1),([jf ⟨⟨[105,102]⟩⟩],.slice (some ⟨u2,0,some 0⟩) 1 1),(t3,.slice a3 n3 c3),([jf ⟨⟨[116,104,101,110]⟩⟩],.slice (some ⟨u3,0,some 0⟩) 1 1),(t1,.slice a1 n1 c1),([jf ⟨⟨[101,108,115,101]⟩⟩],.slice (some ⟨u4,0,some 0⟩) 1 1),(t2,.slice a2 n2 c2),([fA ⟨⟨[41]⟩⟩],.slice (some ⟨u5,0,some 0⟩) 1 1)] ?_
    refine aG (FK (ls:=[[fA ⟨⟨[40]⟩⟩],[jf ⟨⟨[105,102]⟩⟩],t3,[jf ⟨⟨[116,104,101,110]⟩⟩],t1,[jf ⟨⟨[101,108,115,101]⟩⟩],t2,[fA ⟨⟨[41]⟩⟩]]) (by simp) (by simp[fU];omega) (by simp[fU];omega)) (next:=λyv _=>?_);generalize FP:[[fA ⟨⟨[40]⟩⟩],[jf ⟨⟨[105,102]⟩⟩],t3,[jf ⟨⟨[116,104,101,110]⟩⟩],t1,[jf ⟨⟨[101,108,115,101]⟩⟩],t2,[fA ⟨⟨[41]⟩⟩]].flatten=yt;have hyl:yt.length=5+t3.length+t1.length+t2.length:=by rw[<- FP];simp;omega
    have hyk:kX yt:=by
     refine⟨?_,by omega⟩;rw[<- FP];simp only[rG,xX,fC,dw,fJ];exact ng (um (by simp[lK])) (ng (BS (by simp[ru])) (vR Rc.ok (ng (BS (by simp[ru])) (vR ok1.ok (ng (BS (by simp[ru])) (vR BV.ok (ng (um (by simp[lK])) BU)))))))
    refine eU (E:=dD) (v:=yv) (xs:=yt) (by simp) λay cy ey=>?_;subst ey;refine go ?_;refine(bV rfl rfl (EX (lo:=0) (hi:=L.length - 3) rfl hf (by decide) (.inl ⟨rfl,rfl⟩) (.inr ⟨_,rfl,rfl⟩) (dY _) (by omega))).h ?_;rw[show Value.slice (some ⟨b,0+0*bP.n,some f⟩) (L.length - 3 - 0) (c - 0)=.slice (some ⟨b,0,some f⟩) (L.length - 3) c by rw[og,qg,qg]];refine go ?_;intro agj;refine Ju bP (aa:=L) (b:=b) (f:=f) (c:=c) (m:=L.length - 3) (r:=r') (by omega) hf hr' hc ?_;refine lX bP (v:=.slice (some ⟨b,0,some f⟩) (L.length - 3) c) (aa:=L.take (L.length - 3)) (yt,false) (.slice ay yt.length cy) ⟨by rw[fB];omega,by rw[fB];omega,by rw[fB];omega⟩ (λv'=>?_);refine qV bP (v:=v') λa c' e=>?_;subst e;refine go ?_;refine aY (k+1,.slice a _ c',L.take (L.length - 3)++[((yt,false),.slice ay yt.length cy)]) (by show ws.length - (k+1)<ws.length - k;omega) (hI.next hw ?_ hyk (by omega));obtain⟨q1,q2,q3⟩:=h9;simp only[oH]at q1 q2 q3 xE⊢;simp only[bT,oH];rw[if_neg (by decide),if_neg (by decide),if_neg (by simp),if_pos True.intro,if_pos ⟨by omega,xE.trans (by rw[h8]),q2,q3⟩]
   subst h2;refine go ?_;refine gG (λh3=>?_) (λh3=>?_)
   ·have hno:¬fw ws:=hI.bad hw (by simp[bT,h3]);refine go ?_;refine bX (fH (false=true) (ae bP (.slice none 0 0) [([],false)])) (λw hw e=>by cases e) ?_;exact aj ⟨.slice none 0 0,false,[]⟩ (hv:=rfl) (hp:=⟨⟨(λe=>by cases e),λh=>absurd h hno⟩,(λe=>by cases e)⟩)
   refine go ?_;refine aG Kj (next:=λbi _=>?_);refine go ?_;refine aM rfl (λh4=>?_) (λh4=>?_)
   rotate_left
   ·have hno:¬fw ws:=hI.bad hw (by simp[bT];omega);refine go ?_;refine bX (fH (false=true) (ae bP (.slice none 0 0) [([],false)])) (λw hw e=>by cases e) ?_;exact aj ⟨.slice none 0 0,false,[]⟩ (hv:=rfl) (hp:=⟨⟨(λe=>by cases e),λh=>absurd h hno⟩,(λe=>by cases e)⟩)
   refine go ?_;refine aG Kj (next:=λbj _=>?_);obtain⟨m,rfl⟩:=wB h3;have hm:m<5:=by omega
   have hs:kv[m]? =some (kv[m]'hm):=bH _;generalize kv[m]'hm=s at hs;refine go ?_;refine(pM (b:=bj) (o:=0) (j:=m*1) (cs:=kv.map .string) (v:=.string s) rfl rfl rfl (aS ..) (by rw[jB,mH,cK,hs];rfl)).h ?_;refine go ?_;refine aG (BQ (s:=s)) (next:=λbs _=>?_);refine go ?_;intro b79;refine lX bP (v:=v) (aa:=L) ([jf s],false) (.slice (some ⟨bs,0,some 0⟩) 1 1) ⟨by omega,by omega,by omega⟩ (λv'=>?_);refine qV bP (v:=v') λa c e=>?_;subst e;refine go ?_;exact aY (k+1,.slice a _ c,L++[(([jf s],false),.slice (some ⟨bs,0,some 0⟩) 1 1)]) (by show ws.length - (k+1)<ws.length - k;omega) (hI.nx hw (by simp[bT];omega) ⟨ng (BS (nC _ (dA hs))) BU,by simp⟩ (by simp))
  ·subst h1;refine go ?_;refine gG (λh2=>?_) (λh2=>?_)
   ·have hno:¬fw ws:=hI.bad hw (by simp[bT,h2]);refine go ?_;refine bX (fH (false=true) (ae bP (.slice none 0 0) [([],false)])) (λw hw e=>by cases e) ?_;exact aj ⟨.slice none 0 0,false,[]⟩ (hv:=rfl) (hp:=⟨⟨(λe=>by cases e),λh=>absurd h hno⟩,(λe=>by cases e)⟩)
   refine go ?_;refine aM rfl (λh3=>?_) (λh3=>?_)
   rotate_left
   ·have hno:¬fw ws:=hI.bad hw (by simp[bT];omega);refine go ?_;refine bX (fH (false=true) (ae bP (.slice none 0 0) [([],false)])) (λw hw e=>by cases e) ?_;exact aj ⟨.slice none 0 0,false,[]⟩ (hv:=rfl) (hp:=⟨⟨(λe=>by cases e),λh=>absurd h hno⟩,(λe=>by cases e)⟩)
   refine go ?_;intro BX;refine go ?_;intro b53;refine go ?_;refine Ki (b:=BX) ⟨2,⟨⟨[]⟩⟩,n,0⟩ ?_;refine lX bP (v:=v) (aa:=L) ([⟨2,⟨⟨[]⟩⟩,n,0⟩],false) (.slice (some ⟨BX,0,some 0⟩) 1 1) ⟨by omega,by omega,by omega⟩ (λv'=>?_);refine qV bP (v:=v') λa c e=>?_;subst e;refine go ?_;exact aY (k+1,.slice a _ c,L++[(([⟨2,⟨⟨[]⟩⟩,n,0⟩],false),.slice (some ⟨BX,0,some 0⟩) 1 1)]) (by show ws.length - (k+1)<ws.length - k;omega) (hI.nx hw (by simp[bT];omega) ⟨ng (.inr (.inr ⟨n,h2,h3,rfl⟩)) BU,by simp⟩ (by simp))
 have Kq:k=ws.length:=by omega
 subst Kq;have hfl:=hI.fl;rw[iB]at hfl;by_cases hL1:L.length=1
 rotate_left
 ·have hno:¬fw ws:=λh=>by
   have:=h.fl;rw[hfl]at this;have:=congrArg List.length (Option.some.inj this);rw[oH]at this;exact hL1 this
  refine qV bP (v:=v) λa c e=>?_;subst e;refine go ?_;refine gG (λh1=>?_) (λh1=>?_)
  ·omega
  refine go ?_;refine gG (λh2=>?_) (λh2=>?_)
  rotate_left
  ·omega
  refine go ?_;refine(aaD rfl rfl rfl rfl rfl (by repeat (first|with_reducible exact ah.here|with_reducible apply ah.there)) rfl (λr hr=>by rw[cB.1 hr];rfl)).h ?_;refine go ?_;refine bX (fH (false=true) (ae bP (.slice a L.length c) [([],false)])) (λw hw e=>by cases e) ?_;exact aj ⟨.slice a L.length c,false,[]⟩ (hv:=rfl) (hp:=⟨⟨(λe=>by cases e),λh=>absurd h hno⟩,(λe=>by cases e)⟩)
 obtain⟨p,rfl⟩:∃p,L=[p]:=by
  match L,hL1 with
  |[p],_=>exact⟨p,rfl⟩
 obtain⟨a1,n1,c1,e1⟩:=hI.sl p (cB.2 rfl);have ok1:=hI.ok p (cB.2 rfl);obtain⟨⟨t1,g1⟩,v1⟩:=p;dsimp only at e1 ok1;subst e1
 have ht1:t1.length<=2048:=by have:lM [(((t1,g1),Value.slice a1 n1 c1):l7)]=t1.length:=by simp[lM]
                              omega
 refine xm bP (v:=v) (aa:=[((t1,g1),.slice a1 n1 c1)]) (by simp) λb f c r hf hr hc e=>?_;subst e;rw[show aK bP [((t1,g1),.slice a1 n1 c1)]++r=.slice a1 n1 c1::.bool g1::r from rfl];refine go ?_;refine gG (λh1=>?_) (λh1=>?_)
 ·omega
 refine go ?_;rw[show(Value.slice a1 n1 c1::Value.bool g1::r)=aK bP [((t1,g1),.slice a1 n1 c1)]++r from rfl];refine Jt bP (aa:=[((t1,g1),.slice a1 n1 c1)]) (b:=b) (f:=f) (c:=c) (m:=1) (r:=r) rfl hf hr hc ?_;refine cu (tV bP (v:=.slice (some ⟨b,0,some f⟩) 1 c) (aa:=[((t1,g1),.slice a1 n1 c1)])) (h:=?_);have hiff:(!g1)=true↔fw ws:=by
  constructor
  ·intro h;exact⟨hl,by rw[hfl];show some [g1]=_;cases g1<;>simp_all⟩
  ·intro h;have:=h.fl;rw[hfl]at this;have:=Option.some.inj this;cases g1
   ·rfl
   ·cases this
 refine bX (fH ((!g1)=true) (ae bP (.slice (some ⟨b,0,some f⟩) 1 c) [(t1,false)])) (λw hw e=>?_) ?_
 ·have:g1=false:=by cases g1<;>simp_all
  subst this;exact hw (ae bP (.slice (some ⟨b,0,some f⟩) 1 c) [(t1,false)]) (aS ..)
 exact aj ⟨.slice (some ⟨b,0,some f⟩) 1 c,!g1,t1⟩ (hv:=rfl) (hp:=⟨hiff,λ_=>⟨ok1,ht1⟩⟩)
