/-
  The parts of a program.
-/
import Derived.Test.YtbdaaopebgcnaaaGreatDoorLibAM
set_option linter.all false
set_option maxRecDepth 10000
set_option maxHeartbeats 4000000
namespace Go.Proofs.YtbdaaopebgcnaaaGreatDoor
open Go.Ideal Rk
noncomputable def Uy:eU:=⟨205,[(.cell1 2),(.tmp 3)],(.seq (kO [kS 2 (.new [vS] 151),kS 3 (.bF kF)]) (.seq (kO [kS 4 (.bF (.func 120))]) (.seq (kO [kS 5 (.bF (.func 124))]) (.seq (kO [kM 13 4,⟨⟨(some 14),none,(.call 13 [(.const (.string ⟨⟨[43]⟩⟩))])⟩,[]⟩,kM 15 4,⟨⟨(some 16),none,(.call 15 [(.const (.string ⟨⟨[45]⟩⟩))])⟩,[]⟩,kM 17 4,⟨⟨(some 18),none,(.call 17 [(.const (.string ⟨⟨[42]⟩⟩))])⟩,[]⟩,kM 19 4,⟨⟨(some 20),none,(.call 19 [(.const (.string ⟨⟨[47]⟩⟩))])⟩,[]⟩,kM 21 5,⟨⟨(some 22),none,(.call 21 [(.const (.string ⟨⟨[109,105,110]⟩⟩))])⟩,[]⟩,kM 23 5,⟨⟨(some 24),none,(.call 23 [(.const (.string ⟨⟨[109,97,120]⟩⟩))])⟩,[]⟩,⟨⟨(some 25),none,(.build [.nilFunc,.nilFunc,.nilFunc,.nilFunc,.nilFunc,.nilFunc,.nilFunc,.nilFunc,.nilFunc,.nilFunc] [⟨3,⟨1,14⟩⟩,⟨4,⟨1,16⟩⟩,⟨5,⟨1,18⟩⟩,⟨6,⟨1,20⟩⟩,⟨7,⟨1,22⟩⟩,⟨8,⟨1,24⟩⟩,⟨9,⟨1,(.func 127)⟩⟩])⟩,[]⟩,kS 6 (.new [.nilFunc,.nilFunc,.nilFunc,.nilFunc,.nilFunc,.nilFunc,.nilFunc,.nilFunc,.nilFunc,.nilFunc] 175),kN (.store 10 6 25)]) (.seq (kO [kS 26 (.BP (.func 128) [] [2]),kS 7 (.bF 26)]) (.seq (.seq (kO [kM 27 0,kS 28 (.jw 27),kS 29 (.mv (kI 0))]) (.block 0 (.loop (.seq (kO [kS 30 (.bin .lss 3 29 28)]) (.seq (.cond 30 .skip (.exit 0)) (.seq (.block 1 (.seq (kO [kS 31 (.gq 2 27 29),kS 32 (.ni 2 31),kS 9 (.new [vI,vI] 103),kN (.store 2 9 32)]) (.block 2 (.seq (kO [kS 34 (.dG 0 9),kS 35 (.aM 34),kS 36 (.bin .eql 3 35 (kI 1)),kM 37 36,kG 38 37 (.dG 1 9),kG 39 37 (.aM 38),kG 40 37 (.bin .geq 3 39 (kI 0)),kS 41 (.pick 37 40 kF),kM 42 41,kG 43 42 (.dG 1 9),kG 44 42 (.aM 43),kG 45 42 (.bin .leq 3 44 (kI 1048576)),kS 46 (.pick 42 45 kF),kS 33 (.bF 46)]) (.cond 33 (kO [kS 47 (.aM 2),kS 48 (.dG 1 9),kS 49 (.aM 48),⟨⟨(some 50),none,(.build [vI,vE,vI,vI] [⟨0,⟨1,(kI 2)⟩⟩,⟨2,⟨1,49⟩⟩])⟩,[]⟩,⟨⟨(some 51),none,(.eT 172 1 [vI,vE,vI,vI] [⟨0,⟨4,50⟩⟩])⟩,[]⟩,⟨⟨(some 52),none,(.build [vS,(.bool false)] [⟨0,⟨1,51⟩⟩])⟩,[]⟩,⟨⟨(some 53),none,(.eT 157 1 [vS,(.bool false)] [⟨0,⟨2,52⟩⟩])⟩,[]⟩,kS 54 (.append 157 2 32 47 53),kN (.store 1 2 54)]) (.seq (.ops [56,57,58,59,60,61,62,63,64,65,66,67,68,69,70,55] [kS 56 (.dG 0 9),kS 57 (.aM 56),kS 58 (.bin .eql 3 57 (kI 2)),kM 59 58,kG 60 59 (.dG 1 9),kG 61 59 (.aM 60),kG 62 59 (.bin .geq 3 61 (kI 0)),kS 63 (.pick 59 62 kF),kM 64 63,kG 65 64 (.dG 1 9),kG 66 64 (.aM 65),⟨⟨(some 67),(some ⟨64,true⟩),(kC 83 [])⟩,[⟨(some 66),(some ⟨64,true⟩),(.aM 65)⟩]⟩,kG 68 64 (.jw 67),kG 69 64 (.bin .lss 3 66 68),kS 70 (.pick 64 69 kF),kS 55 (.bF 70)]) (.cond 55 (.ops [71,72,73,74,75,76,77,78,79,80] [kS 71 (.aM 2),kS 73 (.dG 1 9),kS 74 (.aM 73),⟨⟨(some 72),none,(kC 83 [])⟩,[⟨(some 74),none,(.aM 73)⟩,⟨(some 71),none,(.aM 2)⟩]⟩,kS 75 (.gq 1 72 74),kS 76 (.aM 75),⟨⟨(some 77),none,(kC 126 [76])⟩,[⟨(some 71),none,(.aM 2)⟩]⟩,⟨⟨(some 78),none,(.build [vS,(.bool false)] [⟨0,⟨1,77⟩⟩])⟩,[]⟩,⟨⟨(some 79),none,(.eT 157 1 [vS,(.bool false)] [⟨0,⟨2,78⟩⟩])⟩,[]⟩,kS 80 (.append 157 2 32 71 79),kN (.store 1 2 80)]) (.seq (kO [kS 82 (.dG 0 9),kS 83 (.aM 82),kS 84 (.bin .eql 3 83 (kI 10)),kM 85 84,kG 86 85 (.dG 1 9),kG 87 85 (.aM 86),kG 88 85 (.bin .eql 3 87 (kI 0)),kS 89 (.pick 85 88 kF),kM 90 89,kG 91 90 (.aM 2),kG 92 90 (.jw 91),kG 93 90 (.bin .gtr 3 92 (kI 2)),kS 94 (.pick 90 93 kF),kM 95 94,kG 96 95 (.aM 2),kG 97 95 (.aM 2),kG 98 95 (.jw 97),kG 99 95 (.bin .sub 3 98 (kI 3)),kG 100 95 (.gq 2 96 99),kG 101 95 (.dG 1 100),kG 102 95 (.aM 101),kS 103 (.pick 95 102 kF),kM 104 103,kG 105 104 (.mv 7),kG 106 104 (.call 105 [(kI 2)]),kS 107 (.pick 104 106 kF),kS 81 (.bF 107)]) (.cond 81 (.seq (kO [kS 108 (.aM 2),kS 109 (.jw 108),kS 110 (.bin .sub 3 109 (kI 3)),kS 10 (.bF 110)]) (.seq (.ops [111,112,113,114,115,116,117,118,119,120,121,122,123,124,125,126,127,128,129,130,131,132,133,134,11] [kS 113 (.aM 2),kM 114 10,kS 115 (.gq 2 113 114),kS 116 (.dG 0 115),kS 117 (.aM 116),kS 119 (.aM 2),kM 120 10,kS 121 (.bin .add 3 120 (kI 1)),kS 122 (.gq 2 119 121),kS 123 (.dG 0 122),kS 124 (.aM 123),kS 126 (.aM 2),kM 127 10,kS 128 (.bin .add 3 127 (kI 2)),kS 129 (.gq 2 126 128),kS 130 (.dG 0 129),kS 131 (.aM 130),⟨⟨(some 111),none,(kC 123 [(.const (.string ⟨⟨[40]⟩⟩))])⟩,[⟨(some 131),none,(.aM 130)⟩,⟨(some 126),none,(.aM 2)⟩,⟨(some 124),none,(.aM 123)⟩,⟨(some 119),none,(.aM 2)⟩,⟨(some 117),none,(.aM 116)⟩,⟨(some 113),none,(.aM 2)⟩]⟩,⟨⟨(some 112),none,(kC 126 [(.const (.string ⟨⟨[105,102]⟩⟩))])⟩,[⟨(some 131),none,(.aM 130)⟩,⟨(some 126),none,(.aM 2)⟩,⟨(some 124),none,(.aM 123)⟩,⟨(some 119),none,(.aM 2)⟩,⟨(some 117),none,(.aM 116)⟩,⟨(some 113),none,(.aM 2)⟩]⟩,⟨⟨(some 118),none,(kC 126 [(.const (.string ⟨⟨[116,104,101,110]⟩⟩))])⟩,[⟨(some 131),none,(.aM 130)⟩,⟨(some 126),none,(.aM 2)⟩,⟨(some 124),none,(.aM 123)⟩,⟨(some 119),none,(.aM 2)⟩,⟨(some 117),none,(.aM 116)⟩,⟨(some 113),none,(.aM 2)⟩]⟩,⟨⟨(some 125),none,(kC 126 [(.const (.string ⟨⟨[101,108,115,101]⟩⟩))])⟩,[⟨(some 131),none,(.aM 130)⟩,⟨(some 126),none,(.aM 2)⟩,⟨(some 124),none,(.aM 123)⟩,⟨(some 119),none,(.aM 2)⟩,⟨(some 117),none,(.aM 116)⟩,⟨(some 113),none,(.aM 2)⟩]⟩,⟨⟨(some 132),none,(kC 123 [(.const (.string ⟨⟨[41]⟩⟩))])⟩,[⟨(some 131),none,(.aM 130)⟩,⟨(some 126),none,(.aM 2)⟩,⟨(some 124),none,(.aM 123)⟩,⟨(some 119),none,(.aM 2)⟩,⟨(some 117),none,(.aM 116)⟩,⟨(some 113),none,(.aM 2)⟩]⟩,⟨⟨(some 133),none,(.eT 155 8 [vS,vS,vS,vS,vS,vS,vS,vS] [⟨0,⟨1,111⟩⟩,⟨1,⟨1,112⟩⟩,⟨2,⟨1,117⟩⟩,⟨3,⟨1,118⟩⟩,⟨4,⟨1,124⟩⟩,⟨5,⟨1,125⟩⟩,⟨6,⟨1,131⟩⟩,⟨7,⟨1,132⟩⟩])⟩,[]⟩,kS 134 (kC 122 [133]),kS 11 (.bF 134)]) (kO [kS 135 (.aM 2),kM 136 10,kS 137 (.nQ 2 135 none (some 136) none),kM 138 11,⟨⟨(some 139),none,(.build [vS,(.bool false)] [⟨0,⟨1,138⟩⟩])⟩,[]⟩,⟨⟨(some 140),none,(.eT 157 1 [vS,(.bool false)] [⟨0,⟨2,139⟩⟩])⟩,[]⟩,kS 141 (.append 157 2 32 137 140),kN (.store 1 2 141)]))) (.seq (kO [kS 143 (.dG 0 9),kS 144 (.aM 143),kS 145 (.bin .geq 3 144 (kI 3)),kM 146 145,kG 147 146 (.dG 0 9),kG 148 146 (.aM 147),kG 149 146 (.bin .lss 3 148 (kI 10)),kS 150 (.pick 146 149 kF),kM 151 150,kG 152 151 (.dG 1 9),kG 153 151 (.aM 152),kG 154 151 (.bin .eql 3 153 (kI 0)),kS 155 (.pick 151 154 kF),kM 156 155,kG 157 156 (.mv 7),kG 158 156 (.call 157 [(kI 2)]),kS 159 (.pick 156 158 kF),kS 142 (.bF 159)]) (.cond 142 (.seq (kO [kS 160 (.aM 2),kS 161 (.jw 160),kS 162 (.bin .sub 3 161 (kI 2)),kS 12 (.bF 162)]) (.ops [163,164,165,166,167,168,169,170,171,172,173,174,175,176,177,178,179,180,181,182,183,184,185,186,187] [kS 163 (.aM 2),kM 164 12,kS 165 (.nQ 2 163 none (some 164) none),kS 166 (.dG 0 9),kS 167 (.aM 166),kS 168 (.EW 10 1 6 167),kS 169 (.aM 168),kS 170 (.aM 2),kM 171 12,kS 172 (.gq 2 170 171),kS 173 (.dG 0 172),kS 174 (.aM 173),kS 175 (.aM 2),kM 176 12,kS 177 (.bin .add 3 176 (kI 1)),kS 178 (.gq 2 175 177),kS 179 (.dG 0 178),kS 180 (.aM 179),kS 182 (.dG 0 9),kS 183 (.aM 182),kS 184 (.bin .eql 3 183 (kI 9)),⟨⟨(some 181),none,(.call 169 [174,180])⟩,[⟨(some 183),none,(.aM 182)⟩,⟨(some 163),none,(.aM 2)⟩]⟩,⟨⟨(some 185),none,(.build [vS,(.bool false)] [⟨0,⟨1,181⟩⟩,⟨1,⟨1,184⟩⟩])⟩,[]⟩,⟨⟨(some 186),none,(.eT 157 1 [vS,(.bool false)] [⟨0,⟨2,185⟩⟩])⟩,[]⟩,kS 187 (.append 157 2 32 165 186),kN (.store 1 2 187)])) (.seq (kO [kN (.store 1 2 (.const vS)),kS 3 (.bF kF)]) .ret)))))))))))) (kO [kS 188 (.bin .add 3 29 (kI 1)),kM 29 188]))))))) (.seq (.ops [189,190,191,192,193,194,195,196,197,198,199,200,201,202,203,204,3] [kS 189 (.aM 2),kM 190 0,kS 191 (.jw 190),kS 192 (.bin .leq 3 191 (kI 256)),kM 193 192,kG 194 193 (.aM 2),kG 195 193 (.jw 194),kG 196 193 (.bin .eql 3 195 (kI 1)),kS 197 (.pick 193 196 kF),kM 198 197,kG 199 198 (.aM 2),kG 200 198 (.gq 2 199 (kI 0)),kG 201 198 (.dG 1 200),kG 202 198 (.aM 201),kG 203 198 (.un .not 202),kS 204 (.pick 198 203 kF),⟨⟨none,none,(.store 1 2 189)⟩,[⟨(some 202),(some ⟨198,true⟩),(.aM 201)⟩]⟩,kS 3 (.bF 204)]) .ret)))))))⟩
theorem aeO:jN Tryz.prog 109=some Uy:=by kernel_rfl
def gB(c:Prop)(f:aD):aD:=⟨λw=>c->f.p w,λa h e=>f.mono a (h e)⟩
def fP:Enc fu:=⟨2,Unit,λx _=>[.int .i64 x.op,.int .i64 x.n],λ_ _=>[],λ_ _=>rfl⟩
structure PtY where
 v:Value
 ok:Bool
 ts:List Tok
def ng(L:List nI):Nat:=(L.map λp=>p.1.1.length).sum
structure wo(ws:List fu)(k:Nat)(L:List nI):Prop where
 kl:k<=ws.length
 fl:lu (ws.take k)=some (oG L)
 ok:∀p∈L,mi p.1.1
 tot:ng L<=6*k
 sl:∀p∈L,∃a n c,p.2=Value.slice a n c
theorem wo.bad{ws:List fu}{k:Nat}{L:List nI}{w:fu}(h:wo ws k L)(hw:ws[k]? =some w)(hn:dm (oG L) w=none):¬fI ws:=λhp=>by
 have:=hp.fl;rw[Mj (k:=k+1) (by rw[HV hw h.fl,hn])]at this;cases this
theorem Uz(L M:List nI):ng (L++M)=ng L+ng M:=by unfold ng;rw[eB,EM]
theorem M7(L:List nI)(k:Nat):ng L=ng (L.take k)+ng (L.drop k):=by rw[<- Uz,yl]
theorem wo.next{ws:List fu}{k:Nat}{L:List nI}{w:fu}(h:wo ws k L)(hw:ws[k]? =some w){m:Nat}{ts:List Tok}{c:Bool}{a:Option Addr}{n cp:Nat}(hc:dm (oG L) w=some ((oG L).take m++[c]))(hok:mi ts)(ht:ts.length<=ng (L.drop m)+6):
 wo ws (k+1) (L.take m++[(((ts,c),Value.slice a n cp):nI)]):=by
 refine⟨(dU.1 hw).1,?_,λp hp=>?_,?_,λp hp=>?_⟩
 ·rw[HV hw h.fl,hc];unfold oG;rw[eB,List.map_take];rfl
 ·rcases gF.1 hp with hp|hp
  ·exact h.ok p (uS hp)
  ·rw[cz.1 hp];exact hok
 ·have h1:=M7 L m;have h2:=h.tot;rw[Uz];have h3:ng [((ts,c),Value.slice a n cp)]=ts.length:=by simp[ng]
  omega
 ·rcases gF.1 hp with hp|hp
  ·exact h.sl p (uS hp)
  ·rw[cz.1 hp];exact⟨_,_,_,rfl⟩
theorem wo.nx{ws:List fu}{k:Nat}{L:List nI}{w:fu}(h:wo ws k L)(hw:ws[k]? =some w){ts:List Tok}{a:Option Addr}{n cp:Nat}(hc:dm (oG L) w=some (oG L++[false]))(hok:mi ts)(ht:ts.length<=6):
 wo ws (k+1) (L++[(((ts,false),Value.slice a n cp):nI)]):=by
 have:=h.next hw (m:=L.length) (ts:=ts) (c:=false) (a:=a) (n:=n) (cp:=cp) (by rw[nO (by rw[qz];exact aG _)];exact hc) hok (by omega)
 rwa [nO (aG _)]at this
def M8(k:Nat):Fn:=if k<=6 then .func 121 else if k<=8 then .func 125 else .func 127
def M9(b1 b2 b3 b4 b5 b6 k:Nat):List Value:=if k=3 then[ptr' b1]else if k=4 then[ptr' b2]else if k=5 then[ptr' b3]else if k=6 then[ptr' b4]else if k=7 then[ptr' b5]else if k=8 then[ptr' b6]else[]
def Na(b1 b2 b3 b4 b5 b6:Nat):List Value:=[.nilFunc,.nilFunc,.nilFunc,.func (.func 121) ⟨[]⟩ ⟨[ptr' b1]⟩,.func (.func 121) ⟨[]⟩ ⟨[ptr' b2]⟩,.func (.func 121) ⟨[]⟩ ⟨[ptr' b3]⟩,.func (.func 121) ⟨[]⟩ ⟨[ptr' b4]⟩,
 .func (.func 125) ⟨[]⟩ ⟨[ptr' b5]⟩,.func (.func 125) ⟨[]⟩ ⟨[ptr' b6]⟩,.func (.func 127) ⟨[]⟩ ⟨[]⟩]
theorem aeQ{b1 b2 b3 b4 b5 b6 k:Nat}(h3:3<=k)(h9:k<=9):iG (Na b1 b2 b3 b4 b5 b6) k=some (.func (M8 k) ⟨[]⟩ ⟨M9 b1 b2 b3 b4 b5 b6 k⟩):=by
 have:k=3\/k=4\/k=5\/k=6\/k=7\/k=8\/k=9:=by omega
 rcases this with rfl|rfl|rfl|rfl|rfl|rfl|rfl<;>rfl
theorem aeR{b1 b2 b3 b4 b5 b6 k:Nat}{va vb:Value}{xs ys:List Tok}(h3:3<=k)(h9:k<=9)(hx:mi xs)(hy:mi ys)(hxl:xs.length<=2048)(hyl:ys.length<=2048):
 aX Tryz.prog (M8 k) [va,vb] (M9 b1 b2 b3 b4 b5 b6 k) [] [bW b6 0 [.string ⟨⟨[109,97,120]⟩⟩],bW b5 0 [.string ⟨⟨[109,105,110]⟩⟩],bW b4 0 [.string ⟨⟨[47]⟩⟩],bW b3 0 [.string ⟨⟨[42]⟩⟩],bW b2 0 [.string ⟨⟨[45]⟩⟩],bW b1 0 [.string ⟨⟨[43]⟩⟩],ae dQ va xs,ae dQ vb ys]
  (λy:IA=>y.1) (λ_=>[]) (λy=>[ae dQ y.1 y.2]) (λy=>mi y.2/\y.2.length<=xs.length+ys.length+4):=by
 have:k=3\/k=4\/k=5\/k=6\/k=7\/k=8\/k=9:=by omega
 rcases this with rfl|rfl|rfl|rfl|rfl|rfl|rfl
 ·exact(IB (b:=b1) (s:=⟨⟨[43]⟩⟩) (by simp[mZ]) hx hy hxl hyl).facts (by simp)
 ·exact(IB (b:=b2) (s:=⟨⟨[45]⟩⟩) (by simp[mZ]) hx hy hxl hyl).facts (by simp)
 ·exact(IB (b:=b3) (s:=⟨⟨[42]⟩⟩) (by simp[mZ]) hx hy hxl hyl).facts (by simp)
 ·exact(IB (b:=b4) (s:=⟨⟨[47]⟩⟩) (by simp[mZ]) hx hy hxl hyl).facts (by simp)
 ·exact(Uv (b:=b5) (s:=⟨⟨[109,105,110]⟩⟩) (by simp[tV]) hx hy hxl hyl).facts (by simp)
 ·exact(Uv (b:=b6) (s:=⟨⟨[109,97,120]⟩⟩) (by simp[tV]) hx hy hxl hyl).facts (by simp)
 ·exact(aeK hx hy hxl hyl).facts (by simp)
theorem aeS{vp:Value}{ws:List fu}(hl:ws.length<=256):aX Tryz.prog (.func 109) [vp] [] [] [ae fP vp ws] (λy:PtY=>.tuple ⟨[y.v,.bool y.ok]⟩) (λ_=>[]) (λy=>[gB (y.ok=true) (ae dh y.v [(y.ts,false)])])
 (λy=>(y.ok=true↔fI ws)/\(y.ok=true->mi y.ts/\y.ts.length<=2048)):=by
 refine aT Uy aeO λB w0=>?_;refine go ?_;intro bL;refine go ?_;refine aB (IC (s:=⟨⟨[43]⟩⟩)) (next:=λb1 _=>?_);refine go ?_;refine aB (IC (s:=⟨⟨[45]⟩⟩)) (next:=λb2 _=>?_);refine go ?_;refine aB (IC (s:=⟨⟨[42]⟩⟩)) (next:=λb3 _=>?_);refine go ?_;refine aB (IC (s:=⟨⟨[47]⟩⟩)) (next:=λb4 _=>?_);refine go ?_;refine aB (Uw (s:=⟨⟨[109,105,110]⟩⟩)) (next:=λb5 _=>?_);refine go ?_;refine aB (Uw (s:=⟨⟨[109,97,120]⟩⟩)) (next:=λb6 _=>?_);refine go ?_;intro bA;refine go ?_;refine bP (fQ (b:=bA) (cs:=Na b1 b2 b3 b4 b5 b6)) (hk:=.here) (h:=?_);refine L9 dh ?_;refine bR (λy:Nat×Value×List nI=>ws.length - y.1) (λy=>[(29,.int .i64 (y.1:Int))]) (λy=>[pt bL (.cells [y.2.1]),sk dh y.2.1 y.2.2]) (λ_=>[]) (λy=>wo ws y.1 y.2.2) (0,.slice none 0 0,[]) ⟨cu _,rfl,(λp hp=>by cases hp),cu _,(λp hp=>by cases hp)⟩ (hk:=by repeat (first|exact aI.nil|(apply aI.cons;(focus (repeat (first|exact ai.here|apply ai.there)))))) (body:=?_);rintro⟨k,v,L⟩ hI;dsimp only at hI⊢;have hkl:=hI.kl;have htot:=hI.tot;have yQ:L.length<=256:=by have:=Dw k (by rw[cB];omega) hI.fl;rw[qz]at this;omega
 refine go ?_;refine aC rfl (λh0=>?_) (λh0=>?_)
 ·refine go ?_;refine cZ fP (k:=k) (next:=λbw ow w _ hw=>?_);refine go ?_;intro b9;obtain⟨op,n⟩:=w;dsimp only;refine go ?_;refine gG (λh1=>?_) (λh1=>?_)
  ·refine go ?_;refine gG (λh2=>?_) (λh2=>?_)
   ·refine go ?_;refine gG (λh3=>?_) (λh3=>?_)
    ·refine go ?_;refine gG (λh4=>?_) (λh4=>?_)
     ·have hno:¬fI ws:=hI.bad hw (by simp[dm,h1,h2,h3,h4]);refine go ?_;refine bJ (gB (false=true) (ae dh (.slice none 0 0) [([],false)])) (λw hw e=>by cases e) ?_;exact aj ⟨.slice none 0 0,false,[]⟩ (hv:=rfl) (hp:=⟨⟨(λe=>by cases e),λh=>absurd h hno⟩,(λe=>by cases e)⟩)
     refine go ?_;refine gG (λh5=>?_) (λh5=>?_)
     ·have hno:¬fI ws:=hI.bad hw (by simp[dm,h1,h2,h3,h5]);refine go ?_;refine bJ (gB (false=true) (ae dh (.slice none 0 0) [([],false)])) (λw hw e=>by cases e) ?_;exact aj ⟨.slice none 0 0,false,[]⟩ (hv:=rfl) (hp:=⟨⟨(λe=>by cases e),λh=>absurd h hno⟩,(λe=>by cases e)⟩)
     refine go ?_;refine gG (λh6=>?_) (λh6=>?_)
     ·have hno:¬fI ws:=hI.bad hw (by simp[dm,h1,h2,h3,h4,h6]);refine go ?_;refine bJ (gB (false=true) (ae dh (.slice none 0 0) [([],false)])) (λw hw e=>by cases e) ?_;exact aj ⟨.slice none 0 0,false,[]⟩ (hv:=rfl) (hp:=⟨⟨(λe=>by cases e),λh=>absurd h hno⟩,(λe=>by cases e)⟩)
     subst h6;refine go ?_;refine aB (Ux (bL:=bL) (v:=v) (L:=L) (by omega) hI.sl) (next:=λ_ _=>?_);refine go ?_;refine aC rfl (λh7=>?_) (λh7=>?_)
     rotate_left
     ·have hno:¬fI ws:=hI.bad hw (by unfold wm at h7;simp[dm,h1,h2,h3,h4,h5];exact λa b c=>h7 ⟨a,b,c⟩);refine go ?_;refine bJ (gB (false=true) (ae dh (.slice none 0 0) [([],false)])) (λw hw e=>by cases e) ?_;exact aj ⟨.slice none 0 0,false,[]⟩ (hv:=rfl) (hp:=⟨⟨(λe=>by cases e),λh=>absurd h hno⟩,(λe=>by cases e)⟩)
     have hf2:2<=L.length:=by have:=h7.1;rw[qz]at this;exact this
     refine go ?_;refine Dp dh (v:=v) (aa:=L) ?_;refine go ?_;rw[show(L.length:Int) - 2=((L.length - 2:Nat):Int)by omega];refine uI dh (v:=v) (aa:=L) (by omega) λb f c r hf hr hc e=>?_;subst e;refine(bC rfl rfl (Dn (lo:=0) (hi:=L.length - 2) rfl hf (by decide) (.inl ⟨rfl,rfl⟩) (.inr ⟨_,rfl,rfl⟩) (cu _) (by omega))).h ?_;rw[show Value.slice (some ⟨b,0+0*dh.n,some f⟩) (L.length - 2 - 0) (c - 0)=.slice (some ⟨b,0,some f⟩) (L.length - 2) c by rw[oQ,qb,qb]];obtain⟨q,rfl⟩:=wE (show 0<=op by omega);refine go ?_;refine(ko (b:=bA) (o:=0) (j:=(q:Int).toNat*1) (cs:=Na b1 b2 b3 b4 b5 b6) (v:=.func (M8 q) ⟨[]⟩ ⟨M9 b1 b2 b3 b4 b5 b6 q⟩) rfl rfl rfl (by repeat (first|with_reducible exact aR .. |with_reducible apply dw)) (by rw[Int.toNat_natCast,fV];exact aeQ (by omega) (by omega))).h ?_;have hp1:L[L.length - 2]? =some (L[L.length - 2]'(by omega)):=bB _;have hp2:L[L.length - 1]? =some (L[L.length - 1]'(by omega)):=bB _;generalize L[L.length - 2]'(by omega)=p1 at hp1;generalize L[L.length - 1]'(by omega)=p2 at hp2;obtain⟨a1,n1,c1,e1⟩:=hI.sl p1 (dA hp1);obtain⟨a2,n2,c2,e2⟩:=hI.sl p2 (dA hp2);have ok1:=hI.ok p1 (dA hp1);have DY:=hI.ok p2 (dA hp2);obtain⟨⟨t1,g1⟩,v1⟩:=p1;obtain⟨⟨t2,g2⟩,v2⟩:=p2;dsimp only at e1 e2 ok1 DY;subst e1 e2;have htl:ng (L.drop (L.length - 2))=t1.length+t2.length:=by
      have ed:L.drop (L.length - 2)=[((t1,g1),.slice a1 n1 c1),((t2,g2),.slice a2 n2 c2)]:=by
       apply kz;intro j;rw[jf];match j with
       |0=>exact hp1
       |1=>rw[show L.length - 2+1=L.length - 1 by omega];exact hp2
       |j+2=>rw[jg (by omega)];rfl
      rw[ed];simp[ng]
     have htk:=M7 L (L.length - 2);refine Dq dh (aa:=L) hp1 ?_;refine Dq dh (aa:=L) hp2 ?_;refine go ?_;refine gp (o:=0+(L.length - 2)*2+0) (.slice a1 n1 c1) (mW (E:=dh) (j:=0) hp1 rfl (by show _=(L.length - 2)*2+0;omega)) ?_;refine go ?_;refine gp (o:=0+(((L.length - 2:Nat):Int)+1).toNat*2+0) (.slice a2 n2 c2) (mW (E:=dh) (j:=0) hp2 rfl (by show _=(L.length - 1)*2+0;omega)) ?_;refine go ?_;refine aB (aeR (b1:=b1) (b2:=b2) (b3:=b3) (b4:=b4) (b5:=b5) (b6:=b6) (k:=q) (xs:=t1) (ys:=t2) (by omega) (by omega) ok1 DY (by omega) (by omega)) (next:=λy hy=>?_);obtain⟨yv,yt⟩:=y;dsimp only at hy⊢;refine eY (E:=dQ) (v:=yv) (xs:=yt) (by simp) λay cy ey=>?_;subst ey;refine go ?_;intro ajx;refine Mc dh (aa:=L) (b:=b) (f:=f) (c:=c) (m:=L.length - 2) (r:=r) (by omega) hf hr hc ?_;refine kv dh (v:=.slice (some ⟨b,0,some f⟩) (L.length - 2) c) (aa:=L.take (L.length - 2)) (yt,decide ((q:Int)=9)) (.slice ay yt.length cy) ⟨by rw[cB];omega,by rw[cB];omega,by rw[cB];omega⟩ (λv'=>?_);refine mV dh (v:=v') λa c' e=>?_;subst e;refine go ?_;refine aL (k+1,.slice a _ c',L.take (L.length - 2)++[((yt,decide ((q:Int)=9)),.slice ay yt.length cy)]) (by show ws.length - (k+1)<ws.length - k;omega) (hI.next hw ?_ hy.1 (by have:=hy.2;omega));obtain⟨q1,q2,q3⟩:=h7;simp only[dm,qz]at q1 q2 q3⊢;rw[if_neg h1,if_neg h2,if_neg (by omega),if_neg h3,if_pos ⟨h4,h5⟩,if_pos ⟨q1,q2,q3⟩]
    subst h3;refine go ?_;refine gG (λh6=>?_) (λh6=>?_)
    ·have hno:¬fI ws:=hI.bad hw (by simp[dm,h6]);refine go ?_;refine bJ (gB (false=true) (ae dh (.slice none 0 0) [([],false)])) (λw hw e=>by cases e) ?_;exact aj ⟨.slice none 0 0,false,[]⟩ (hv:=rfl) (hp:=⟨⟨(λe=>by cases e),λh=>absurd h hno⟩,(λe=>by cases e)⟩)
    subst h6;refine go ?_;refine Dp dh (v:=v) (aa:=L) ?_;refine go ?_;refine gG (λh7=>?_) (λh7=>?_)
    ·have hno:¬fI ws:=hI.bad hw (by simp[dm,qz];omega);refine go ?_;refine bJ (gB (false=true) (ae dh (.slice none 0 0) [([],false)])) (λw hw e=>by cases e) ?_;exact aj ⟨.slice none 0 0,false,[]⟩ (hv:=rfl) (hp:=⟨⟨(λe=>by cases e),λh=>absurd h hno⟩,(λe=>by cases e)⟩)
    refine go ?_;refine Dp dh (v:=v) (aa:=L) ?_;refine go ?_;rw[show(L.length:Int) - 3=((L.length - 3:Nat):Int)by omega];refine uI dh (v:=v) (aa:=L) (by omega) λb f c r hf hr hc e=>?_;subst e;have hp3:L[L.length - 3]? =some (L[L.length - 3]'(by omega)):=bB _;have hp1:L[L.length - 2]? =some (L[L.length - 2]'(by omega)):=bB _;have hp2:L[L.length - 1]? =some (L[L.length - 1]'(by omega)):=bB _;generalize L[L.length - 3]'(by omega)=p3 at hp3;generalize L[L.length - 2]'(by omega)=p1 at hp1;generalize L[L.length - 1]'(by omega)=p2 at hp2;obtain⟨a3,n3,c3,e3⟩:=hI.sl p3 (dA hp3);obtain⟨a1,n1,c1,e1⟩:=hI.sl p1 (dA hp1);obtain⟨a2,n2,c2,e2⟩:=hI.sl p2 (dA hp2);have UA:=hI.ok p3 (dA hp3);have ok1:=hI.ok p1 (dA hp1);have DY:=hI.ok p2 (dA hp2);have y9:=M6 hp3;obtain⟨⟨t3,g3⟩,v3⟩:=p3;obtain⟨⟨t1,g1⟩,v1⟩:=p1;obtain⟨⟨t2,g2⟩,v2⟩:=p2;dsimp only at e1 e2 e3 ok1 DY UA y9;subst e1 e2 e3;refine go ?_;refine gp (o:=0+(L.length - 3)*2+1) (.bool g3) (mW (E:=dh) (j:=1) hp3 rfl (by show _=(L.length - 3)*2+1;omega)) ?_;refine go ?_;refine gG (λh8=>?_) (λh8=>?_)
    ·have hno:¬fI ws:=hI.bad hw (by simp[dm,qz,y9,h8]);refine go ?_;refine bJ (gB (false=true) (ae dh (.slice none 0 0) [([],false)])) (λw hw e=>by cases e) ?_;exact aj ⟨.slice none 0 0,false,[]⟩ (hv:=rfl) (hp:=⟨⟨(λe=>by cases e),λh=>absurd h hno⟩,(λe=>by cases e)⟩)
    refine A7 dh (aa:=L) (b:=b) (f:=f) (c:=c) (m:=L.length) (r:=r) rfl hf hr hc ?_;refine go ?_;refine aB (Ux (bL:=bL) (v:=.slice (some ⟨b,0,some f⟩) L.length c) (L:=L) (by omega) hI.sl) (next:=λ_ _=>?_);refine go ?_;refine aC rfl (λh9=>?_) (λh9=>?_)
    rotate_left
    ·have hno:¬fI ws:=hI.bad hw (by unfold wm at h9;simp only[qz]at h9;simp[dm,qz];intro a b' c d;exact h9 ⟨by omega,c,d⟩);refine go ?_;refine bJ (gB (false=true) (ae dh (.slice none 0 0) [([],false)])) (λw hw e=>by cases e) ?_;exact aj ⟨.slice none 0 0,false,[]⟩ (hv:=rfl) (hp:=⟨⟨(λe=>by cases e),λh=>absurd h hno⟩,(λe=>by cases e)⟩)
    refine go ?_;rw[show(L.length:Int) - 3=((L.length - 3:Nat):Int)by omega];refine uI dh (aa:=L) (by omega) λb' f' c' r' hf' hr' hc' e=>?_;cases e;refine Dq dh (aa:=L) hp3 ?_;refine Dq dh (aa:=L) hp1 ?_;refine Dq dh (aa:=L) hp2 ?_;dsimp only;have hv3:(aP dh L++r')[0+(L.length - 3)*2+0]? =some (.slice a3 n3 c3):=mW (E:=dh) (j:=0) hp3 rfl (by show _=(L.length - 3)*2+0;omega);have hv1:(aP dh L++r')[0+(((L.length - 3:Nat):Int)+1).toNat*2+0]? =some (.slice a1 n1 c1):=mW (E:=dh) (j:=0) hp1 rfl (by show _=(L.length - 2)*2+0;omega);have hv2:(aP dh L++r')[0+(((L.length - 3:Nat):Int)+2).toNat*2+0]? =some (.slice a2 n2 c2):=mW (E:=dh) (j:=0) hp2 rfl (by show _=(L.length - 1)*2+0;omega);have htl:ng (L.drop (L.length - 3))=t3.length+t1.length+t2.length:=by
     have ed:L.drop (L.length - 3)=[((t3,g3),.slice a3 n3 c3),((t1,g1),.slice a1 n1 c1),((t2,g2),.slice a2 n2 c2)]:=by
      apply kz;intro j;rw[jf];match j with
      |0=>exact hp3
      |1=>rw[show L.length - 3+1=L.length - 2 by omega];exact hp1
      |2=>rw[show L.length - 3+2=L.length - 1 by omega];exact hp2
      |j+3=>rw[jg (by omega)];rfl
     rw[ed];simp[ng];omega
    have htk:=M7 L (L.length - 3);refine gp (.slice a3 n3 c3) hv3 ?_;refine go ?_;refine gp (.slice a1 n1 c1) hv1 ?_;refine go ?_;refine gp (.slice a2 n2 c2) hv2 ?_;refine go ?_;refine aB (vZ (s:=⟨⟨[40]⟩⟩)) (hs:=by
     intro _ _;repeat (first
      |exact tu
      |refine rF rfl (by repeat (first|with_reducible exact ai.here|with_reducible apply ai.there)) rfl rfl ?_
      |refine oh rfl (by repeat (first|with_reducible exact ai.here|with_reducible apply ai.there)) hv3 rfl ?_
      |refine oh rfl (by repeat (first|with_reducible exact ai.here|with_reducible apply ai.there)) hv1 rfl ?_
      |refine oh rfl (by repeat (first|with_reducible exact ai.here|with_reducible apply ai.there)) hv2 rfl ?_)) (next:=λu1 _=>?_)
    refine go ?_;refine aB (DV (s:=⟨⟨[105,102]⟩⟩)) (hs:=by
     intro _ _;repeat (first
      |exact tu
      |refine rF rfl (by repeat (first|with_reducible exact ai.here|with_reducible apply ai.there)) rfl rfl ?_
      |refine oh rfl (by repeat (first|with_reducible exact ai.here|with_reducible apply ai.there)) hv3 rfl ?_
      |refine oh rfl (by repeat (first|with_reducible exact ai.here|with_reducible apply ai.there)) hv1 rfl ?_
      |refine oh rfl (by repeat (first|with_reducible exact ai.here|with_reducible apply ai.there)) hv2 rfl ?_)) (next:=λu2 _=>?_)
    refine go ?_;refine aB (DV (s:=⟨⟨[116,104,101,110]⟩⟩)) (hs:=by
     intro _ _;repeat (first
      |exact tu
      |refine rF rfl (by repeat (first|with_reducible exact ai.here|with_reducible apply ai.there)) rfl rfl ?_
      |refine oh rfl (by repeat (first|with_reducible exact ai.here|with_reducible apply ai.there)) hv3 rfl ?_
      |refine oh rfl (by repeat (first|with_reducible exact ai.here|with_reducible apply ai.there)) hv1 rfl ?_
      |refine oh rfl (by repeat (first|with_reducible exact ai.here|with_reducible apply ai.there)) hv2 rfl ?_)) (next:=λu3 _=>?_)
    refine go ?_;refine aB (DV (s:=⟨⟨[101,108,115,101]⟩⟩)) (hs:=by
     intro _ _;repeat (first
      |exact tu
      |refine rF rfl (by repeat (first|with_reducible exact ai.here|with_reducible apply ai.there)) rfl rfl ?_
      |refine oh rfl (by repeat (first|with_reducible exact ai.here|with_reducible apply ai.there)) hv3 rfl ?_
      |refine oh rfl (by repeat (first|with_reducible exact ai.here|with_reducible apply ai.there)) hv1 rfl ?_
      |refine oh rfl (by repeat (first|with_reducible exact ai.here|with_reducible apply ai.there)) hv2 rfl ?_)) (next:=λu4 _=>?_)
    refine go ?_;refine aB (vZ (s:=⟨⟨[41]⟩⟩)) (hs:=by
     intro _ _;repeat (first
      |exact tu
      |refine rF rfl (by repeat (first|with_reducible exact ai.here|with_reducible apply ai.there)) rfl rfl ?_
      |refine oh rfl (by repeat (first|with_reducible exact ai.here|with_reducible apply ai.there)) hv3 rfl ?_
      |refine oh rfl (by repeat (first|with_reducible exact ai.here|with_reducible apply ai.there)) hv1 rfl ?_
      |refine oh rfl (by repeat (first|with_reducible exact ai.here|with_reducible apply ai.there)) hv2 rfl ?_)) (next:=λu5 _=>?_)
    refine go ?_;intro aeT;have z1:=ok1.pos;refine Iw (b:=aeT) (m:=8) (ls:=[[fO ⟨⟨[40]⟩⟩],[jL ⟨⟨[105,102]⟩⟩],t3,[jL ⟨⟨[116,104,101,110]⟩⟩],t1,[jL ⟨⟨[101,108,115,101]⟩⟩],t2,[fO ⟨⟨[41]⟩⟩]])
     [([fO ⟨⟨[40]⟩⟩],.slice (some ⟨u1,0,some 0⟩) 1 1),([jL ⟨⟨[105,102]⟩⟩],.slice (some ⟨u2,0,some 0⟩) 1 1),(t3,.slice a3 n3 c3),([jL ⟨⟨[116,104,101,110]⟩⟩],.slice (some ⟨u3,0,some 0⟩) 1 1),(t1,.slice a1 n1 c1),([jL ⟨⟨[101,108,115,101]⟩⟩],.slice (some ⟨u4,0,some 0⟩) 1 1),(t2,.slice a2 n2 c2),([fO ⟨⟨[41]⟩⟩],.slice (some ⟨u5,0,some 0⟩) 1 1)] ?_
    refine aB (Iy (ls:=[[fO ⟨⟨[40]⟩⟩],[jL ⟨⟨[105,102]⟩⟩],t3,[jL ⟨⟨[116,104,101,110]⟩⟩],t1,[jL ⟨⟨[101,108,115,101]⟩⟩],t2,[fO ⟨⟨[41]⟩⟩]]) (by simp) (by simp[gU];omega) (by simp[gU];omega)) (next:=λyv _=>?_);generalize IE:[[fO ⟨⟨[40]⟩⟩],[jL ⟨⟨[105,102]⟩⟩],t3,[jL ⟨⟨[116,104,101,110]⟩⟩],t1,[jL ⟨⟨[101,108,115,101]⟩⟩],t2,[fO ⟨⟨[41]⟩⟩]].flatten=yt;have hyl:yt.length=5+t3.length+t1.length+t2.length:=by rw[<- IE];simp;omega
    have hyk:mi yt:=by
     refine⟨?_,by omega⟩;rw[<- IE];simp only[uj,zC,fE,dI,fU];exact oF (wh (by simp[mZ])) (oF (DW (by simp[tV])) (xR UA.ok (oF (DW (by simp[tV])) (xR ok1.ok (oF (DW (by simp[tV])) (xR DY.ok (oF (wh (by simp[mZ])) DX)))))))
    refine eY (E:=dQ) (v:=yv) (xs:=yt) (by simp) λay cy ey=>?_;subst ey;refine go ?_;refine(bC rfl rfl (Dn (lo:=0) (hi:=L.length - 3) rfl hf (by decide) (.inl ⟨rfl,rfl⟩) (.inr ⟨_,rfl,rfl⟩) (cu _) (by omega))).h ?_;rw[show Value.slice (some ⟨b,0+0*dh.n,some f⟩) (L.length - 3 - 0) (c - 0)=.slice (some ⟨b,0,some f⟩) (L.length - 3) c by rw[oQ,qb,qb]];refine go ?_;intro ajy;refine Mc dh (aa:=L) (b:=b) (f:=f) (c:=c) (m:=L.length - 3) (r:=r') (by omega) hf hr' hc ?_;refine kv dh (v:=.slice (some ⟨b,0,some f⟩) (L.length - 3) c) (aa:=L.take (L.length - 3)) (yt,false) (.slice ay yt.length cy) ⟨by rw[cB];omega,by rw[cB];omega,by rw[cB];omega⟩ (λv'=>?_);refine mV dh (v:=v') λa c' e=>?_;subst e;refine go ?_;refine aL (k+1,.slice a _ c',L.take (L.length - 3)++[((yt,false),.slice ay yt.length cy)]) (by show ws.length - (k+1)<ws.length - k;omega) (hI.next hw ?_ hyk (by omega));obtain⟨q1,q2,q3⟩:=h9;simp only[qz]at q1 q2 q3 y9⊢;simp only[dm,qz];rw[if_neg (by decide),if_neg (by decide),if_neg (by simp),if_pos True.intro,if_pos ⟨by omega,y9.trans (by rw[h8]),q2,q3⟩]
   subst h2;refine go ?_;refine gG (λh3=>?_) (λh3=>?_)
   ·have hno:¬fI ws:=hI.bad hw (by simp[dm,h3]);refine go ?_;refine bJ (gB (false=true) (ae dh (.slice none 0 0) [([],false)])) (λw hw e=>by cases e) ?_;exact aj ⟨.slice none 0 0,false,[]⟩ (hv:=rfl) (hp:=⟨⟨(λe=>by cases e),λh=>absurd h hno⟩,(λe=>by cases e)⟩)
   refine go ?_;refine aB M5 (next:=λbi _=>?_);refine go ?_;refine aC rfl (λh4=>?_) (λh4=>?_)
   rotate_left
   ·have hno:¬fI ws:=hI.bad hw (by simp[dm];omega);refine go ?_;refine bJ (gB (false=true) (ae dh (.slice none 0 0) [([],false)])) (λw hw e=>by cases e) ?_;exact aj ⟨.slice none 0 0,false,[]⟩ (hv:=rfl) (hp:=⟨⟨(λe=>by cases e),λh=>absurd h hno⟩,(λe=>by cases e)⟩)
   refine go ?_;refine aB M5 (next:=λbj _=>?_);obtain⟨m,rfl⟩:=wE h3;have hm:m<5:=by omega
   have hs:lG[m]? =some (lG[m]'hm):=bB _;generalize lG[m]'hm=s at hs;refine go ?_;refine(ko (b:=bj) (o:=0) (j:=m*1) (cs:=lG.map .string) (v:=.string s) rfl rfl rfl (aR ..) (by rw[fV,nT,bU,hs];rfl)).h ?_;refine go ?_;refine aB (DV (s:=s)) (next:=λbs _=>?_);refine go ?_;intro b79;refine kv dh (v:=v) (aa:=L) ([jL s],false) (.slice (some ⟨bs,0,some 0⟩) 1 1) ⟨by omega,by omega,by omega⟩ (λv'=>?_);refine mV dh (v:=v') λa c e=>?_;subst e;refine go ?_;exact aL (k+1,.slice a _ c,L++[(([jL s],false),.slice (some ⟨bs,0,some 0⟩) 1 1)]) (by show ws.length - (k+1)<ws.length - k;omega) (hI.nx hw (by simp[dm];omega) ⟨oF (DW (oO _ (dA hs))) DX,by simp⟩ (by simp))
  ·subst h1;refine go ?_;refine gG (λh2=>?_) (λh2=>?_)
   ·have hno:¬fI ws:=hI.bad hw (by simp[dm,h2]);refine go ?_;refine bJ (gB (false=true) (ae dh (.slice none 0 0) [([],false)])) (λw hw e=>by cases e) ?_;exact aj ⟨.slice none 0 0,false,[]⟩ (hv:=rfl) (hp:=⟨⟨(λe=>by cases e),λh=>absurd h hno⟩,(λe=>by cases e)⟩)
   refine go ?_;refine aC rfl (λh3=>?_) (λh3=>?_)
   rotate_left
   ·have hno:¬fI ws:=hI.bad hw (by simp[dm];omega);refine go ?_;refine bJ (gB (false=true) (ae dh (.slice none 0 0) [([],false)])) (λw hw e=>by cases e) ?_;exact aj ⟨.slice none 0 0,false,[]⟩ (hv:=rfl) (hp:=⟨⟨(λe=>by cases e),λh=>absurd h hno⟩,(λe=>by cases e)⟩)
   refine go ?_;intro DZ;refine go ?_;intro b53;refine go ?_;refine M4 (b:=DZ) ⟨2,⟨⟨[]⟩⟩,n,0⟩ ?_;refine kv dh (v:=v) (aa:=L) ([⟨2,⟨⟨[]⟩⟩,n,0⟩],false) (.slice (some ⟨DZ,0,some 0⟩) 1 1) ⟨by omega,by omega,by omega⟩ (λv'=>?_);refine mV dh (v:=v') λa c e=>?_;subst e;refine go ?_;exact aL (k+1,.slice a _ c,L++[(([⟨2,⟨⟨[]⟩⟩,n,0⟩],false),.slice (some ⟨DZ,0,some 0⟩) 1 1)]) (by show ws.length - (k+1)<ws.length - k;omega) (hI.nx hw (by simp[dm];omega) ⟨oF (.inr (.inr ⟨n,h2,h3,rfl⟩)) DX,by simp⟩ (by simp))
 have D5:k=ws.length:=by omega
 subst D5;have hfl:=hI.fl;rw[gV]at hfl;by_cases hL1:L.length=1
 rotate_left
 ·have hno:¬fI ws:=λh=>by
   have:=h.fl;rw[hfl]at this;have:=congrArg List.length (Option.some.inj this);rw[qz]at this;exact hL1 this
  refine mV dh (v:=v) λa c e=>?_;subst e;refine go ?_;refine gG (λh1=>?_) (λh1=>?_)
  ·omega
  refine go ?_;refine gG (λh2=>?_) (λh2=>?_)
  rotate_left
  ·omega
  refine go ?_;refine(adq rfl rfl rfl rfl rfl (by repeat (first|with_reducible exact ai.here|with_reducible apply ai.there)) rfl (λr hr=>by rw[cz.1 hr];rfl)).h ?_;refine go ?_;refine bJ (gB (false=true) (ae dh (.slice a L.length c) [([],false)])) (λw hw e=>by cases e) ?_;exact aj ⟨.slice a L.length c,false,[]⟩ (hv:=rfl) (hp:=⟨⟨(λe=>by cases e),λh=>absurd h hno⟩,(λe=>by cases e)⟩)
 obtain⟨p,rfl⟩:∃p,L=[p]:=by
  match L,hL1 with
  |[p],_=>exact⟨p,rfl⟩
 obtain⟨a1,n1,c1,e1⟩:=hI.sl p (cz.2 rfl);have ok1:=hI.ok p (cz.2 rfl);obtain⟨⟨t1,g1⟩,v1⟩:=p;dsimp only at e1 ok1;subst e1
 have ht1:t1.length<=2048:=by have:ng [(((t1,g1),Value.slice a1 n1 c1):nI)]=t1.length:=by simp[ng]
                              omega
 refine uI dh (v:=v) (aa:=[((t1,g1),.slice a1 n1 c1)]) (by simp) λb f c r hf hr hc e=>?_;subst e;rw[show aP dh [((t1,g1),.slice a1 n1 c1)]++r=.slice a1 n1 c1::.bool g1::r from rfl];refine go ?_;refine gG (λh1=>?_) (λh1=>?_)
 ·omega
 refine go ?_;rw[show(Value.slice a1 n1 c1::Value.bool g1::r)=aP dh [((t1,g1),.slice a1 n1 c1)]++r from rfl];refine A7 dh (aa:=[((t1,g1),.slice a1 n1 c1)]) (b:=b) (f:=f) (c:=c) (m:=1) (r:=r) rfl hf hr hc ?_;refine bP (vO dh (v:=.slice (some ⟨b,0,some f⟩) 1 c) (aa:=[((t1,g1),.slice a1 n1 c1)])) (h:=?_);have hiff:(!g1)=true↔fI ws:=by
  constructor
  ·intro h;exact⟨hl,by rw[hfl];show some [g1]=_;cases g1<;>simp_all⟩
  ·intro h;have:=h.fl;rw[hfl]at this;have:=Option.some.inj this;cases g1
   ·rfl
   ·cases this
 refine bJ (gB ((!g1)=true) (ae dh (.slice (some ⟨b,0,some f⟩) 1 c) [(t1,false)])) (λw hw e=>?_) ?_
 ·have:g1=false:=by cases g1<;>simp_all
  subst this;exact hw (ae dh (.slice (some ⟨b,0,some f⟩) 1 c) [(t1,false)]) (aR ..)
 exact aj ⟨.slice (some ⟨b,0,some f⟩) 1 c,!g1,t1⟩ (hv:=rfl) (hp:=⟨hiff,λ_=>⟨ok1,ht1⟩⟩)
