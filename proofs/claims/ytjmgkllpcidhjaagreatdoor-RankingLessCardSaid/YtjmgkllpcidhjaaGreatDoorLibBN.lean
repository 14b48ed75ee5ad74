/-
  The parts of a program.
-/
import Derived.Test.YtjmgkllpcidhjaaGreatDoorLibAN
set_option linter.all false
set_option maxRecDepth 10000
set_option maxHeartbeats 4000000
namespace Go.Proofs.YtjmgkllpcidhjaaGreatDoor
open Go.Ideal Rk
noncomputable def TY:eX:=⟨205,[(.cell1 2),(.tmp 3)],(.seq (kO [kS 2 (.new [vS] 106),kS 3 (.bI kF)]) (.seq (kO [kS 4 (.bI (.func 100))]) (.seq (kO [kS 5 (.bI (.func 104))]) (.seq (kO [kM 13 4,⟨⟨(some 14),none,(.call 13 [(.const (.string ⟨⟨[43]⟩⟩))])⟩,[]⟩,kM 15 4,⟨⟨(some 16),none,(.call 15 [(.const (.string ⟨⟨[45]⟩⟩))])⟩,[]⟩,kM 17 4,⟨⟨(some 18),none,(.call 17 [(.const (.string ⟨⟨[42]⟩⟩))])⟩,[]⟩,kM 19 4,⟨⟨(some 20),none,(.call 19 [(.const (.string ⟨⟨[47]⟩⟩))])⟩,[]⟩,kM 21 5,⟨⟨(some 22),none,(.call 21 [(.const (.string ⟨⟨[109,105,110]⟩⟩))])⟩,[]⟩,kM 23 5,⟨⟨(some 24),none,(.call 23 [(.const (.string ⟨⟨[109,97,120]⟩⟩))])⟩,[]⟩,⟨⟨(some 25),none,(.build [.nilFunc,.nilFunc,.nilFunc,.nilFunc,.nilFunc,.nilFunc,.nilFunc,.nilFunc,.nilFunc,.nilFunc] [⟨3,⟨1,14⟩⟩,⟨4,⟨1,16⟩⟩,⟨5,⟨1,18⟩⟩,⟨6,⟨1,20⟩⟩,⟨7,⟨1,22⟩⟩,⟨8,⟨1,24⟩⟩,⟨9,⟨1,(.func 107)⟩⟩])⟩,[]⟩,kS 6 (.new [.nilFunc,.nilFunc,.nilFunc,.nilFunc,.nilFunc,.nilFunc,.nilFunc,.nilFunc,.nilFunc,.nilFunc] 138),kN (.store 10 6 25)]) (.seq (kO [kS 26 (.Bv (.func 108) [] [2]),kS 7 (.bI 26)]) (.seq (.seq (kO [kM 27 0,kS 28 (.jf 27),kS 29 (.mv (kI 0))]) (.block 0 (.loop (.seq (kO [kS 30 (.bin .lss 3 29 28)]) (.seq (.cond 30 .skip (.exit 0)) (.seq (.block 1 (.seq (kO [kS 31 (.fB 2 27 29),kS 32 (.mO 2 31),kS 9 (.new [vI,vI] 83),kN (.store 2 9 32)]) (.block 2 (.seq (kO [kS 34 (.dH 0 9),kS 35 (.aP 34),kS 36 (.bin .eql 3 35 (kI 1)),kM 37 36,kG 38 37 (.dH 1 9),kG 39 37 (.aP 38),kG 40 37 (.bin .geq 3 39 (kI 0)),kS 41 (.pick 37 40 kF),kM 42 41,kG 43 42 (.dH 1 9),kG 44 42 (.aP 43),kG 45 42 (.bin .leq 3 44 (kI 1048576)),kS 46 (.pick 42 45 kF),kS 33 (.bI 46)]) (.cond 33 (kO [kS 47 (.aP 2),kS 48 (.dH 1 9),kS 49 (.aP 48),⟨⟨(some 50),none,(.build [vI,vE,vI,vI] [⟨0,⟨1,(kI 2)⟩⟩,⟨2,⟨1,49⟩⟩])⟩,[]⟩,⟨⟨(some 51),none,(.dY 135 1 [vI,vE,vI,vI] [⟨0,⟨4,50⟩⟩])⟩,[]⟩,⟨⟨(some 52),none,(.build [vS,(.bool false)] [⟨0,⟨1,51⟩⟩])⟩,[]⟩,⟨⟨(some 53),none,(.dY 112 1 [vS,(.bool false)] [⟨0,⟨2,52⟩⟩])⟩,[]⟩,kS 54 (.append 112 2 32 47 53),kN (.store 1 2 54)]) (.seq (.ops [56,57,58,59,60,61,62,63,64,65,66,67,68,69,70,55] [kS 56 (.dH 0 9),kS 57 (.aP 56),kS 58 (.bin .eql 3 57 (kI 2)),kM 59 58,kG 60 59 (.dH 1 9),kG 61 59 (.aP 60),kG 62 59 (.bin .geq 3 61 (kI 0)),kS 63 (.pick 59 62 kF),kM 64 63,kG 65 64 (.dH 1 9),kG 66 64 (.aP 65),⟨⟨(some 67),(some ⟨64,true⟩),(kC 69 [])⟩,[⟨(some 66),(some ⟨64,true⟩),(.aP 65)⟩]⟩,kG 68 64 (.jf 67),kG 69 64 (.bin .lss 3 66 68),kS 70 (.pick 64 69 kF),kS 55 (.bI 70)]) (.cond 55 (.ops [71,72,73,74,75,76,77,78,79,80] [kS 71 (.aP 2),kS 73 (.dH 1 9),kS 74 (.aP 73),⟨⟨(some 72),none,(kC 69 [])⟩,[⟨(some 74),none,(.aP 73)⟩,⟨(some 71),none,(.aP 2)⟩]⟩,kS 75 (.fB 1 72 74),kS 76 (.aP 75),⟨⟨(some 77),none,(kC 106 [76])⟩,[⟨(some 71),none,(.aP 2)⟩]⟩,⟨⟨(some 78),none,(.build [vS,(.bool false)] [⟨0,⟨1,77⟩⟩])⟩,[]⟩,⟨⟨(some 79),none,(.dY 112 1 [vS,(.bool false)] [⟨0,⟨2,78⟩⟩])⟩,[]⟩,kS 80 (.append 112 2 32 71 79),kN (.store 1 2 80)]) (.seq (kO [kS 82 (.dH 0 9),kS 83 (.aP 82),kS 84 (.bin .eql 3 83 (kI 10)),kM 85 84,kG 86 85 (.dH 1 9),kG 87 85 (.aP 86),kG 88 85 (.bin .eql 3 87 (kI 0)),kS 89 (.pick 85 88 kF),kM 90 89,kG 91 90 (.aP 2),kG 92 90 (.jf 91),kG 93 90 (.bin .gtr 3 92 (kI 2)),kS 94 (.pick 90 93 kF),kM 95 94,kG 96 95 (.aP 2),kG 97 95 (.aP 2),kG 98 95 (.jf 97),kG 99 95 (.bin .sub 3 98 (kI 3)),kG 100 95 (.fB 2 96 99),kG 101 95 (.dH 1 100),kG 102 95 (.aP 101),kS 103 (.pick 95 102 kF),kM 104 103,kG 105 104 (.mv 7),kG 106 104 (.call 105 [(kI 2)]),kS 107 (.pick 104 106 kF),kS 81 (.bI 107)]) (.cond 81 (.seq (kO [kS 108 (.aP 2),kS 109 (.jf 108),kS 110 (.bin .sub 3 109 (kI 3)),kS 10 (.bI 110)]) (.seq (.ops [111,112,113,114,115,116,117,118,119,120,121,122,123,124,125,126,127,128,129,130,131,132,133,134,11] [kS 113 (.aP 2),kM 114 10,kS 115 (.fB 2 113 114),kS 116 (.dH 0 115),kS 117 (.aP 116),kS 119 (.aP 2),kM 120 10,kS 121 (.bin .add 3 120 (kI 1)),kS 122 (.fB 2 119 121),kS 123 (.dH 0 122),kS 124 (.aP 123),kS 126 (.aP 2),kM 127 10,kS 128 (.bin .add 3 127 (kI 2)),kS 129 (.fB 2 126 128),kS 130 (.dH 0 129),kS 131 (.aP 130),⟨⟨(some 111),none,(kC 103 [(.const (.string ⟨⟨[40]⟩⟩))])⟩,[⟨(some 131),none,(.aP 130)⟩,⟨(some 126),none,(.aP 2)⟩,⟨(some 124),none,(.aP 123)⟩,⟨(some 119),none,(.aP 2)⟩,⟨(some 117),none,(.aP 116)⟩,⟨(some 113),none,(.aP 2)⟩]⟩,⟨⟨(some 112),none,(kC 106 [(.const (.string ⟨⟨[105,102]⟩⟩))])⟩,[⟨(some 131),none,(.aP 130)⟩,⟨(some 126),none,(.aP 2)⟩,⟨(some 124),none,(.aP 123)⟩,⟨(some 119),none,(.aP 2)⟩,⟨(some 117),none,(.aP 116)⟩,⟨(some 113),none,(.aP 2)⟩]⟩,⟨⟨(some 118),none,(kC 106 [(.const (.string ⟨⟨[116,104,101,110]⟩⟩))])⟩,[⟨(some 131),none,(.aP 130)⟩,⟨(some 126),none,(.aP 2)⟩,⟨(some 124),none,(.aP 123)⟩,⟨(some 119),none,(.aP 2)⟩,⟨(some 117),none,(.aP 116)⟩,⟨(some 113),none,(.aP 2)⟩]⟩,⟨⟨(some 125),none,(kC 106 [(.const (.string ⟨⟨[101,108,115,101]⟩⟩))])⟩,[⟨(some 131),none,(.aP 130)⟩,⟨(some 126),none,(.aP 2)⟩,⟨(some 124),none,(.aP 123)⟩,⟨(some 119),none,(.aP 2)⟩,⟨(some 117),none,(.aP 116)⟩,⟨(some 113),none,(.aP 2)⟩]⟩,⟨⟨(some 132),none,(kC 103 [(.const (.string ⟨⟨[41]⟩⟩))])⟩,[⟨(some 131),none,(.aP 130)⟩,⟨(some 126),none,(.aP 2)⟩,⟨(some 124),none,(.aP 123)⟩,⟨(some 119),none,(.aP 2)⟩,⟨(some 117),none,(.aP 116)⟩,⟨(some 113),none,(.aP 2)⟩]⟩,⟨⟨(some 133),none,(.dY 110 8 [vS,vS,vS,vS,vS,vS,vS,vS] [⟨0,⟨1,111⟩⟩,⟨1,⟨1,112⟩⟩,⟨2,⟨1,117⟩⟩,⟨3,⟨1,118⟩⟩,⟨4,⟨1,124⟩⟩,⟨5,⟨1,125⟩⟩,⟨6,⟨1,131⟩⟩,⟨7,⟨1,132⟩⟩])⟩,[]⟩,kS 134 (kC 102 [133]),kS 11 (.bI 134)]) (kO [kS 135 (.aP 2),kM 136 10,kS 137 (.ny 2 135 none (some 136) none),kM 138 11,⟨⟨(some 139),none,(.build [vS,(.bool false)] [⟨0,⟨1,138⟩⟩])⟩,[]⟩,⟨⟨(some 140),none,(.dY 112 1 [vS,(.bool false)] [⟨0,⟨2,139⟩⟩])⟩,[]⟩,kS 141 (.append 112 2 32 137 140),kN (.store 1 2 141)]))) (.seq (kO [kS 143 (.dH 0 9),kS 144 (.aP 143),kS 145 (.bin .geq 3 144 (kI 3)),kM 146 145,kG 147 146 (.dH 0 9),kG 148 146 (.aP 147),kG 149 146 (.bin .lss 3 148 (kI 10)),kS 150 (.pick 146 149 kF),kM 151 150,kG 152 151 (.dH 1 9),kG 153 151 (.aP 152),kG 154 151 (.bin .eql 3 153 (kI 0)),kS 155 (.pick 151 154 kF),kM 156 155,kG 157 156 (.mv 7),kG 158 156 (.call 157 [(kI 2)]),kS 159 (.pick 156 158 kF),kS 142 (.bI 159)]) (.cond 142 (.seq (kO [kS 160 (.aP 2),kS 161 (.jf 160),kS 162 (.bin .sub 3 161 (kI 2)),kS 12 (.bI 162)]) (.ops [163,164,165,166,167,168,169,170,171,172,173,174,175,176,177,178,179,180,181,182,183,184,185,186,187] [kS 163 (.aP 2),kM 164 12,kS 165 (.ny 2 163 none (some 164) none),kS 166 (.dH 0 9),kS 167 (.aP 166),kS 168 (.EG 10 1 6 167),kS 169 (.aP 168),kS 170 (.aP 2),kM 171 12,kS 172 (.fB 2 170 171),kS 173 (.dH 0 172),kS 174 (.aP 173),kS 175 (.aP 2),kM 176 12,kS 177 (.bin .add 3 176 (kI 1)),kS 178 (.fB 2 175 177),kS 179 (.dH 0 178),kS 180 (.aP 179),kS 182 (.dH 0 9),kS 183 (.aP 182),kS 184 (.bin .eql 3 183 (kI 9)),⟨⟨(some 181),none,(.call 169 [174,180])⟩,[⟨(some 183),none,(.aP 182)⟩,⟨(some 163),none,(.aP 2)⟩]⟩,⟨⟨(some 185),none,(.build [vS,(.bool false)] [⟨0,⟨1,181⟩⟩,⟨1,⟨1,184⟩⟩])⟩,[]⟩,⟨⟨(some 186),none,(.dY 112 1 [vS,(.bool false)] [⟨0,⟨2,185⟩⟩])⟩,[]⟩,kS 187 (.append 112 2 32 165 186),kN (.store 1 2 187)])) (.seq (kO [kN (.store 1 2 (.const vS)),kS 3 (.bI kF)]) .ret)))))))))))) (kO [kS 188 (.bin .add 3 29 (kI 1)),kM 29 188]))))))) (.seq (.ops [189,190,191,192,193,194,195,196,197,198,199,200,201,202,203,204,3] [kS 189 (.aP 2),kM 190 0,kS 191 (.jf 190),kS 192 (.bin .leq 3 191 (kI 256)),kM 193 192,kG 194 193 (.aP 2),kG 195 193 (.jf 194),kG 196 193 (.bin .eql 3 195 (kI 1)),kS 197 (.pick 193 196 kF),kM 198 197,kG 199 198 (.aP 2),kG 200 198 (.fB 2 199 (kI 0)),kG 201 198 (.dH 1 200),kG 202 198 (.aP 201),kG 203 198 (.un .not 202),kS 204 (.pick 198 203 kF),⟨⟨none,none,(.store 1 2 189)⟩,[⟨(some 202),(some ⟨198,true⟩),(.aP 201)⟩]⟩,kS 3 (.bI 204)]) .ret)))))))⟩
theorem aeJ:ja Tryz.prog 81=some TY:=by kernel_rfl
def fJ(c:Prop)(f:aK):aK:=⟨λw=>c->f.p w,λa h e=>f.mono a (h e)⟩
def fw:Enc eD:=⟨2,Unit,λx _=>[.int .i64 x.op,.int .i64 x.n],λ_ _=>[],λ_ _=>rfl⟩
structure PtY where
 v:Value
 ok:Bool
 ts:List Tok
def mI(L:List ni):Nat:=(L.map λp=>p.1.1.length).sum
structure vk(ws:List eD)(k:Nat)(L:List ni):Prop where
 kl:k<=ws.length
 fl:kR (ws.take k)=some (nO L)
 ok:∀p∈L,lK p.1.1
 tot:mI L<=6*k
 sl:∀p∈L,∃a n c,p.2=Value.slice a n c
theorem vk.bad{ws:List eD}{k:Nat}{L:List ni}{w:eD}(h:vk ws k L)(hw:ws[k]? =some w)(hn:dm (nO L) w=none):¬fo ws:=λhp=>by
 have:=hp.fl;rw[LP (k:=k+1) (by rw[Gn hw h.fl,hn])]at this;cases this
theorem TZ(L M:List ni):mI (L++M)=mI L+mI M:=by unfold mI;rw[fH,ED]
theorem MI(L:List ni)(k:Nat):mI L=mI (L.take k)+mI (L.drop k):=by rw[<- TZ,xz]
theorem vk.next{ws:List eD}{k:Nat}{L:List ni}{w:eD}(h:vk ws k L)(hw:ws[k]? =some w){m:Nat}{ts:List Tok}{c:Bool}{a:Option Addr}{n cp:Nat}(hc:dm (nO L) w=some ((nO L).take m++[c]))(hok:lK ts)(ht:ts.length<=mI (L.drop m)+6):
 vk ws (k+1) (L.take m++[(((ts,c),Value.slice a n cp):ni)]):=by
 refine⟨(dX.1 hw).1,?_,λp hp=>?_,?_,λp hp=>?_⟩
 ·rw[Gn hw h.fl,hc];unfold nO;rw[fH,List.map_take];rfl
 ·rcases gy.1 hp with hp|hp
  ·exact h.ok p (y7 hp)
  ·rw[di.1 hp];exact hok
 ·have h1:=MI L m;have h2:=h.tot;rw[TZ];have h3:mI [((ts,c),Value.slice a n cp)]=ts.length:=by simp[mI]
  omega
 ·rcases gy.1 hp with hp|hp
  ·exact h.sl p (y7 hp)
  ·rw[di.1 hp];exact⟨_,_,_,rfl⟩
theorem vk.nx{ws:List eD}{k:Nat}{L:List ni}{w:eD}(h:vk ws k L)(hw:ws[k]? =some w){ts:List Tok}{a:Option Addr}{n cp:Nat}(hc:dm (nO L) w=some (nO L++[false]))(hok:lK ts)(ht:ts.length<=6):
 vk ws (k+1) (L++[(((ts,false),Value.slice a n cp):ni)]):=by
 have:=h.next hw (m:=L.length) (ts:=ts) (c:=false) (a:=a) (n:=n) (cp:=cp) (by rw[mM (by rw[qf];exact aH _)];exact hc) hok (by omega)
 rwa [mM (aH _)]at this
def MJ(k:Nat):Fn:=if k<=6 then .func 101 else if k<=8 then .func 105 else .func 107
def MK(b1 b2 b3 b4 b5 b6 k:Nat):List Value:=if k=3 then[ptr' b1]else if k=4 then[ptr' b2]else if k=5 then[ptr' b3]else if k=6 then[ptr' b4]else if k=7 then[ptr' b5]else if k=8 then[ptr' b6]else[]
def ML(b1 b2 b3 b4 b5 b6:Nat):List Value:=[.nilFunc,.nilFunc,.nilFunc,.func (.func 101) ⟨[]⟩ ⟨[ptr' b1]⟩,.func (.func 101) ⟨[]⟩ ⟨[ptr' b2]⟩,.func (.func 101) ⟨[]⟩ ⟨[ptr' b3]⟩,.func (.func 101) ⟨[]⟩ ⟨[ptr' b4]⟩,
 .func (.func 105) ⟨[]⟩ ⟨[ptr' b5]⟩,.func (.func 105) ⟨[]⟩ ⟨[ptr' b6]⟩,.func (.func 107) ⟨[]⟩ ⟨[]⟩]
theorem aeL{b1 b2 b3 b4 b5 b6 k:Nat}(h3:3<=k)(h9:k<=9):iq (ML b1 b2 b3 b4 b5 b6) k=some (.func (MJ k) ⟨[]⟩ ⟨MK b1 b2 b3 b4 b5 b6 k⟩):=by
 have:k=3\/k=4\/k=5\/k=6\/k=7\/k=8\/k=9:=by omega
 rcases this with rfl|rfl|rfl|rfl|rfl|rfl|rfl<;>rfl
theorem aeM{b1 b2 b3 b4 b5 b6 k:Nat}{va vb:Value}{xs ys:List Tok}(h3:3<=k)(h9:k<=9)(hx:lK xs)(hy:lK ys)(hxl:xs.length<=2048)(hyl:ys.length<=2048):
 bD Tryz.prog (MJ k) [va,vb] (MK b1 b2 b3 b4 b5 b6 k) [] [dG b6 0 [.string ⟨⟨[109,97,120]⟩⟩],dG b5 0 [.string ⟨⟨[109,105,110]⟩⟩],dG b4 0 [.string ⟨⟨[47]⟩⟩],dG b3 0 [.string ⟨⟨[42]⟩⟩],dG b2 0 [.string ⟨⟨[45]⟩⟩],dG b1 0 [.string ⟨⟨[43]⟩⟩],ah dJ va xs,ah dJ vb ys]
  (λy:He=>y.1) (λ_=>[]) (λy=>[ah dJ y.1 y.2]) (λy=>lK y.2/\y.2.length<=xs.length+ys.length+4):=by
 have:k=3\/k=4\/k=5\/k=6\/k=7\/k=8\/k=9:=by omega
 rcases this with rfl|rfl|rfl|rfl|rfl|rfl|rfl
 ·exact(Hf (b:=b1) (s:=⟨⟨[43]⟩⟩) (by simp[mH]) hx hy hxl hyl).facts (by simp)
 ·exact(Hf (b:=b2) (s:=⟨⟨[45]⟩⟩) (by simp[mH]) hx hy hxl hyl).facts (by simp)
 ·exact(Hf (b:=b3) (s:=⟨⟨[42]⟩⟩) (by simp[mH]) hx hy hxl hyl).facts (by simp)
 ·exact(Hf (b:=b4) (s:=⟨⟨[47]⟩⟩) (by simp[mH]) hx hy hxl hyl).facts (by simp)
 ·exact(TU (b:=b5) (s:=⟨⟨[109,105,110]⟩⟩) (by simp[sj]) hx hy hxl hyl).facts (by simp)
 ·exact(TU (b:=b6) (s:=⟨⟨[109,97,120]⟩⟩) (by simp[sj]) hx hy hxl hyl).facts (by simp)
 ·exact(aeF hx hy hxl hyl).facts (by simp)
theorem aeN{vp:Value}{ws:List eD}(hl:ws.length<=256):bD Tryz.prog (.func 81) [vp] [] [] [ah fw vp ws] (λy:PtY=>.tuple ⟨[y.v,.bool y.ok]⟩) (λ_=>[]) (λy=>[fJ (y.ok=true) (ah cz y.v [(y.ts,false)])])
 (λy=>(y.ok=true↔fo ws)/\(y.ok=true->lK y.ts/\y.ts.length<=2048)):=by
 refine aX TY aeJ λB w0=>?_;refine go ?_;intro bL;refine go ?_;refine aD (Hg (s:=⟨⟨[43]⟩⟩)) (next:=λb1 _=>?_);refine go ?_;refine aD (Hg (s:=⟨⟨[45]⟩⟩)) (next:=λb2 _=>?_);refine go ?_;refine aD (Hg (s:=⟨⟨[42]⟩⟩)) (next:=λb3 _=>?_);refine go ?_;refine aD (Hg (s:=⟨⟨[47]⟩⟩)) (next:=λb4 _=>?_);refine go ?_;refine aD (TV (s:=⟨⟨[109,105,110]⟩⟩)) (next:=λb5 _=>?_);refine go ?_;refine aD (TV (s:=⟨⟨[109,97,120]⟩⟩)) (next:=λb6 _=>?_);refine go ?_;intro bA;refine go ?_;refine bG (eP (b:=bA) (cs:=ML b1 b2 b3 b4 b5 b6)) (hk:=.here) (h:=?_);refine Lt cz ?_;refine bE (λy:Nat×Value×List ni=>ws.length - y.1) (λy=>[(29,.int .i64 (y.1:Int))]) (λy=>[pt bL (.cells [y.2.1]),sk cz y.2.1 y.2.2]) (λ_=>[]) (λy=>vk ws y.1 y.2.2) (0,.slice none 0 0,[]) ⟨bF _,rfl,(λp hp=>by cases hp),bF _,(λp hp=>by cases hp)⟩ (hk:=by repeat (first|exact aM.nil|(apply aM.cons;(focus (repeat (first|exact ai.here|apply ai.there)))))) (body:=?_);rintro⟨k,v,L⟩ hI;dsimp only at hI⊢;have hkl:=hI.kl;have htot:=hI.tot;have yz:L.length<=256:=by have:=Dm k (by rw[dw];omega) hI.fl;rw[qf]at this;omega
 refine go ?_;refine aC rfl (λh0=>?_) (λh0=>?_)
 ·refine go ?_;refine bJ fw (k:=k) (next:=λbw ow w _ hw=>?_);refine go ?_;intro b9;obtain⟨op,n⟩:=w;dsimp only;refine go ?_;refine gG (λh1=>?_) (λh1=>?_)
  ·refine go ?_;refine gG (λh2=>?_) (λh2=>?_)
   ·refine go ?_;refine gG (λh3=>?_) (λh3=>?_)
    ·refine go ?_;refine gG (λh4=>?_) (λh4=>?_)
     ·have hno:¬fo ws:=hI.bad hw (by simp[dm,h1,h2,h3,h4]);refine go ?_;refine cK (fJ (false=true) (ah cz (.slice none 0 0) [([],false)])) (λw hw e=>by cases e) ?_;exact aj ⟨.slice none 0 0,false,[]⟩ (hv:=rfl) (hp:=⟨⟨(λe=>by cases e),λh=>absurd h hno⟩,(λe=>by cases e)⟩)
     refine go ?_;refine gG (λh5=>?_) (λh5=>?_)
     ·have hno:¬fo ws:=hI.bad hw (by simp[dm,h1,h2,h3,h5]);refine go ?_;refine cK (fJ (false=true) (ah cz (.slice none 0 0) [([],false)])) (λw hw e=>by cases e) ?_;exact aj ⟨.slice none 0 0,false,[]⟩ (hv:=rfl) (hp:=⟨⟨(λe=>by cases e),λh=>absurd h hno⟩,(λe=>by cases e)⟩)
     refine go ?_;refine gG (λh6=>?_) (λh6=>?_)
     ·have hno:¬fo ws:=hI.bad hw (by simp[dm,h1,h2,h3,h4,h6]);refine go ?_;refine cK (fJ (false=true) (ah cz (.slice none 0 0) [([],false)])) (λw hw e=>by cases e) ?_;exact aj ⟨.slice none 0 0,false,[]⟩ (hv:=rfl) (hp:=⟨⟨(λe=>by cases e),λh=>absurd h hno⟩,(λe=>by cases e)⟩)
     subst h6;refine go ?_;refine aD (TW (bL:=bL) (v:=v) (L:=L) (by omega) hI.sl) (next:=λ_ _=>?_);refine go ?_;refine aC rfl (λh7=>?_) (λh7=>?_)
     rotate_left
     ·have hno:¬fo ws:=hI.bad hw (by unfold vg at h7;simp[dm,h1,h2,h3,h4,h5];exact λa b c=>h7 ⟨a,b,c⟩);refine go ?_;refine cK (fJ (false=true) (ah cz (.slice none 0 0) [([],false)])) (λw hw e=>by cases e) ?_;exact aj ⟨.slice none 0 0,false,[]⟩ (hv:=rfl) (hp:=⟨⟨(λe=>by cases e),λh=>absurd h hno⟩,(λe=>by cases e)⟩)
     have hf2:2<=L.length:=by have:=h7.1;rw[qf]at this;exact this
     refine go ?_;refine Di cz (v:=v) (aa:=L) ?_;refine go ?_;rw[show(L.length:Int) - 2=((L.length - 2:Nat):Int)by omega];refine tJ cz (v:=v) (aa:=L) (by omega) λb f c r hf hr hc e=>?_;subst e;refine(bO rfl rfl (Dh (lo:=0) (hi:=L.length - 2) rfl hf (by decide) (.inl ⟨rfl,rfl⟩) (.inr ⟨_,rfl,rfl⟩) (bF _) (by omega))).h ?_;rw[show Value.slice (some ⟨b,0+0*cz.n,some f⟩) (L.length - 2 - 0) (c - 0)=.slice (some ⟨b,0,some f⟩) (L.length - 2) c by rw[pF,pE,pE]];obtain⟨q,rfl⟩:=Bo (show 0<=op by omega);refine go ?_;refine(rO (b:=bA) (o:=0) (j:=(q:Int).toNat*1) (cs:=ML b1 b2 b3 b4 b5 b6) (v:=.func (MJ q) ⟨[]⟩ ⟨MK b1 b2 b3 b4 b5 b6 q⟩) rfl rfl rfl (by repeat (first|with_reducible exact bz .. |with_reducible apply dh)) (by rw[Int.toNat_natCast,gT];exact aeL (by omega) (by omega))).h ?_;have hp1:L[L.length - 2]? =some (L[L.length - 2]'(by omega)):=bf _;have hp2:L[L.length - 1]? =some (L[L.length - 1]'(by omega)):=bf _;generalize L[L.length - 2]'(by omega)=p1 at hp1;generalize L[L.length - 1]'(by omega)=p2 at hp2;obtain⟨a1,n1,c1,e1⟩:=hI.sl p1 (cZ hp1);obtain⟨a2,n2,c2,e2⟩:=hI.sl p2 (cZ hp2);have ok1:=hI.ok p1 (cZ hp1);have DV:=hI.ok p2 (cZ hp2);obtain⟨⟨t1,g1⟩,v1⟩:=p1;obtain⟨⟨t2,g2⟩,v2⟩:=p2;dsimp only at e1 e2 ok1 DV;subst e1 e2;have htl:mI (L.drop (L.length - 2))=t1.length+t2.length:=by
      have ed:L.drop (L.length - 2)=[((t1,g1),.slice a1 n1 c1),((t2,g2),.slice a2 n2 c2)]:=by
       apply jA;intro j;rw[jy];match j with
       |0=>exact hp1
       |1=>rw[show L.length - 2+1=L.length - 1 by omega];exact hp2
       |j+2=>rw[ig (by omega)];rfl
      rw[ed];simp[mI]
     have htk:=MI L (L.length - 2);refine Dj cz (aa:=L) hp1 ?_;refine Dj cz (aa:=L) hp2 ?_;refine go ?_;refine jU (o:=0+(L.length - 2)*2+0) (.slice a1 n1 c1) (mo (E:=cz) (j:=0) hp1 rfl (by show _=(L.length - 2)*2+0;omega)) ?_;refine go ?_;refine jU (o:=0+(((L.length - 2:Nat):Int)+1).toNat*2+0) (.slice a2 n2 c2) (mo (E:=cz) (j:=0) hp2 rfl (by show _=(L.length - 1)*2+0;omega)) ?_;refine go ?_;refine aD (aeM (b1:=b1) (b2:=b2) (b3:=b3) (b4:=b4) (b5:=b5) (b6:=b6) (k:=q) (xs:=t1) (ys:=t2) (by omega) (by omega) ok1 DV (by omega) (by omega)) (next:=λy hy=>?_);obtain⟨yv,yt⟩:=y;dsimp only at hy⊢;refine gH (E:=dJ) (v:=yv) (xs:=yt) (by simp) λay cy ey=>?_;subst ey;refine go ?_;intro aji;refine Lv cz (aa:=L) (b:=b) (f:=f) (c:=c) (m:=L.length - 2) (r:=r) (by omega) hf hr hc ?_;refine jW cz (v:=.slice (some ⟨b,0,some f⟩) (L.length - 2) c) (aa:=L.take (L.length - 2)) (yt,decide ((q:Int)=9)) (.slice ay yt.length cy) ⟨by rw[dw];omega,by rw[dw];omega,by rw[dw];omega⟩ (λv'=>?_);refine mi cz (v:=v') λa c' e=>?_;subst e;refine go ?_;refine aO (k+1,.slice a _ c',L.take (L.length - 2)++[((yt,decide ((q:Int)=9)),.slice ay yt.length cy)]) (by show ws.length - (k+1)<ws.length - k;omega) (hI.next hw ?_ hy.1 (by have:=hy.2;omega));obtain⟨q1,q2,q3⟩:=h7;simp only[dm,qf]at q1 q2 q3⊢;rw[if_neg h1,if_neg h2,if_neg (by omega),if_neg h3,if_pos ⟨h4,h5⟩,if_pos ⟨q1,q2,q3⟩]
    subst h3;refine go ?_;refine gG (λh6=>?_) (λh6=>?_)
    ·have hno:¬fo ws:=hI.bad hw (by simp[dm,h6]);refine go ?_;refine cK (fJ (false=true) (ah cz (.slice none 0 0) [([],false)])) (λw hw e=>by cases e) ?_;exact aj ⟨.slice none 0 0,false,[]⟩ (hv:=rfl) (hp:=⟨⟨(λe=>by cases e),λh=>absurd h hno⟩,(λe=>by cases e)⟩)
    subst h6;refine go ?_;refine Di cz (v:=v) (aa:=L) ?_;refine go ?_;refine gG (λh7=>?_) (λh7=>?_)
    ·have hno:¬fo ws:=hI.bad hw (by simp[dm,qf];omega);refine go ?_;refine cK (fJ (false=true) (ah cz (.slice none 0 0) [([],false)])) (λw hw e=>by cases e) ?_;exact aj ⟨.slice none 0 0,false,[]⟩ (hv:=rfl) (hp:=⟨⟨(λe=>by cases e),λh=>absurd h hno⟩,(λe=>by cases e)⟩)
    refine go ?_;refine Di cz (v:=v) (aa:=L) ?_;refine go ?_;rw[show(L.length:Int) - 3=((L.length - 3:Nat):Int)by omega];refine tJ cz (v:=v) (aa:=L) (by omega) λb f c r hf hr hc e=>?_;subst e;have hp3:L[L.length - 3]? =some (L[L.length - 3]'(by omega)):=bf _;have hp1:L[L.length - 2]? =some (L[L.length - 2]'(by omega)):=bf _;have hp2:L[L.length - 1]? =some (L[L.length - 1]'(by omega)):=bf _;generalize L[L.length - 3]'(by omega)=p3 at hp3;generalize L[L.length - 2]'(by omega)=p1 at hp1;generalize L[L.length - 1]'(by omega)=p2 at hp2;obtain⟨a3,n3,c3,e3⟩:=hI.sl p3 (cZ hp3);obtain⟨a1,n1,c1,e1⟩:=hI.sl p1 (cZ hp1);obtain⟨a2,n2,c2,e2⟩:=hI.sl p2 (cZ hp2);have T9:=hI.ok p3 (cZ hp3);have ok1:=hI.ok p1 (cZ hp1);have DV:=hI.ok p2 (cZ hp2);have yP:=MH hp3;obtain⟨⟨t3,g3⟩,v3⟩:=p3;obtain⟨⟨t1,g1⟩,v1⟩:=p1;obtain⟨⟨t2,g2⟩,v2⟩:=p2;dsimp only at e1 e2 e3 ok1 DV T9 yP;subst e1 e2 e3;refine go ?_;refine jU (o:=0+(L.length - 3)*2+1) (.bool g3) (mo (E:=cz) (j:=1) hp3 rfl (by show _=(L.length - 3)*2+1;omega)) ?_;refine go ?_;refine gG (λh8=>?_) (λh8=>?_)
    ·have hno:¬fo ws:=hI.bad hw (by simp[dm,qf,yP,h8]);refine go ?_;refine cK (fJ (false=true) (ah cz (.slice none 0 0) [([],false)])) (λw hw e=>by cases e) ?_;exact aj ⟨.slice none 0 0,false,[]⟩ (hv:=rfl) (hp:=⟨⟨(λe=>by cases e),λh=>absurd h hno⟩,(λe=>by cases e)⟩)
    refine Ao cz (aa:=L) (b:=b) (f:=f) (c:=c) (m:=L.length) (r:=r) rfl hf hr hc ?_;refine go ?_;refine aD (TW (bL:=bL) (v:=.slice (some ⟨b,0,some f⟩) L.length c) (L:=L) (by omega) hI.sl) (next:=λ_ _=>?_);refine go ?_;refine aC rfl (λh9=>?_) (λh9=>?_)
    rotate_left
    ·have hno:¬fo ws:=hI.bad hw (by unfold vg at h9;simp only[qf]at h9;simp[dm,qf];intro a b' c d;exact h9 ⟨by omega,c,d⟩);refine go ?_;refine cK (fJ (false=true) (ah cz (.slice none 0 0) [([],false)])) (λw hw e=>by cases e) ?_;exact aj ⟨.slice none 0 0,false,[]⟩ (hv:=rfl) (hp:=⟨⟨(λe=>by cases e),λh=>absurd h hno⟩,(λe=>by cases e)⟩)
    refine go ?_;rw[show(L.length:Int) - 3=((L.length - 3:Nat):Int)by omega];refine tJ cz (aa:=L) (by omega) λb' f' c' r' hf' hr' hc' e=>?_;cases e;refine Dj cz (aa:=L) hp3 ?_;refine Dj cz (aa:=L) hp1 ?_;refine Dj cz (aa:=L) hp2 ?_;dsimp only;have hv3:(aW cz L++r')[0+(L.length - 3)*2+0]? =some (.slice a3 n3 c3):=mo (E:=cz) (j:=0) hp3 rfl (by show _=(L.length - 3)*2+0;omega);have hv1:(aW cz L++r')[0+(((L.length - 3:Nat):Int)+1).toNat*2+0]? =some (.slice a1 n1 c1):=mo (E:=cz) (j:=0) hp1 rfl (by show _=(L.length - 2)*2+0;omega);have hv2:(aW cz L++r')[0+(((L.length - 3:Nat):Int)+2).toNat*2+0]? =some (.slice a2 n2 c2):=mo (E:=cz) (j:=0) hp2 rfl (by show _=(L.length - 1)*2+0;omega);have htl:mI (L.drop (L.length - 3))=t3.length+t1.length+t2.length:=by
     have ed:L.drop (L.length - 3)=[((t3,g3),.slice a3 n3 c3),((t1,g1),.slice a1 n1 c1),((t2,g2),.slice a2 n2 c2)]:=by
      apply jA;intro j;rw[jy];match j with
      |0=>exact hp3
      |1=>rw[show L.length - 3+1=L.length - 2 by omega];exact hp1
      |2=>rw[show L.length - 3+2=L.length - 1 by omega];exact hp2
      |j+3=>rw[ig (by omega)];rfl
     rw[ed];simp[mI];omega
    have htk:=MI L (L.length - 3);refine jU (.slice a3 n3 c3) hv3 ?_;refine go ?_;refine jU (.slice a1 n1 c1) hv1 ?_;refine go ?_;refine jU (.slice a2 n2 c2) hv2 ?_;refine go ?_;refine aD (u6 (s:=⟨⟨[40]⟩⟩)) (hs:=by
     intro _ _;repeat (first
      |exact rQ
      |refine qI rfl (by repeat (first|with_reducible exact ai.here|with_reducible apply ai.there)) rfl rfl ?_
      |refine nJ rfl (by repeat (first|with_reducible exact ai.here|with_reducible apply ai.there)) hv3 rfl ?_
      |refine nJ rfl (by repeat (first|with_reducible exact ai.here|with_reducible apply ai.there)) hv1 rfl ?_
      |refine nJ rfl (by repeat (first|with_reducible exact ai.here|with_reducible apply ai.there)) hv2 rfl ?_)) (next:=λu1 _=>?_)
    refine go ?_;refine aD (DR (s:=⟨⟨[105,102]⟩⟩)) (hs:=by
     intro _ _;repeat (first
      |exact rQ
      |refine qI rfl (by repeat (first|with_reducible exact ai.here|with_reducible apply ai.there)) rfl rfl ?_
      |refine nJ rfl (by repeat (first|with_reducible exact ai.here|with_reducible apply ai.there)) hv3 rfl ?_
      |refine nJ rfl (by repeat (first|with_reducible exact ai.here|with_reducible apply ai.there)) hv1 rfl ?_
      |refine nJ rfl (by repeat (first|with_reducible exact ai.here|with_reducible apply ai.there)) hv2 rfl ?_)) (next:=λu2 _=>?_)
    refine go ?_;refine aD (DR (s:=⟨⟨[116,104,101,110]⟩⟩)) (hs:=by
     intro _ _;repeat (first
      |exact rQ
      |refine qI rfl (by repeat (first|with_reducible exact ai.here|with_reducible apply ai.there)) rfl rfl ?_
      |refine nJ rfl (by repeat (first|with_reducible exact ai.here|with_reducible apply ai.there)) hv3 rfl ?_
      |refine nJ rfl (by repeat (first|with_reducible exact ai.here|with_reducible apply ai.there)) hv1 rfl ?_
      |refine nJ rfl (by repeat (first|with_reducible exact ai.here|with_reducible apply ai.there)) hv2 rfl ?_)) (next:=λu3 _=>?_)
    refine go ?_;refine aD (DR (s:=⟨⟨[101,108,115,101]⟩⟩)) (hs:=by
     intro _ _;repeat (first
      |exact rQ
      |refine qI rfl (by repeat (first|with_reducible exact ai.here|with_reducible apply ai.there)) rfl rfl ?_
      |refine nJ rfl (by repeat (first|with_reducible exact ai.here|with_reducible apply ai.there)) hv3 rfl ?_
      |refine nJ rfl (by repeat (first|with_reducible exact ai.here|with_reducible apply ai.there)) hv1 rfl ?_
      |refine nJ rfl (by repeat (first|with_reducible exact ai.here|with_reducible apply ai.there)) hv2 rfl ?_)) (next:=λu4 _=>?_)
    refine go ?_;refine aD (u6 (s:=⟨⟨[41]⟩⟩)) (hs:=by
     intro _ _;repeat (first
      |exact rQ
      |refine qI rfl (by repeat (first|with_reducible exact ai.here|with_reducible apply ai.there)) rfl rfl ?_
      |refine nJ rfl (by repeat (first|with_reducible exact ai.here|with_reducible apply ai.there)) hv3 rfl ?_
      |refine nJ rfl (by repeat (first|with_reducible exact ai.here|with_reducible apply ai.there)) hv1 rfl ?_
      |refine nJ rfl (by repeat (first|with_reducible exact ai.here|with_reducible apply ai.there)) hv2 rfl ?_)) (next:=λu5 _=>?_)
    refine go ?_;intro aeO;have z1:=ok1.pos;refine G7 (b:=aeO) (m:=8) (ls:=[[fu ⟨⟨[40]⟩⟩],[jw ⟨⟨[105,102]⟩⟩],t3,[jw ⟨⟨[116,104,101,110]⟩⟩],t1,[jw ⟨⟨[101,108,115,101]⟩⟩],t2,[fu ⟨⟨[41]⟩⟩]])
     [([fu ⟨⟨[40]⟩⟩],.slice (some ⟨u1,0,some 0⟩) 1 1),([jw ⟨⟨[105,102]⟩⟩],.slice (some ⟨u2,0,some 0⟩) 1 1),(t3,.slice a3 n3 c3),([jw ⟨⟨[116,104,101,110]⟩⟩],.slice (some ⟨u3,0,some 0⟩) 1 1),(t1,.slice a1 n1 c1),([jw ⟨⟨[101,108,115,101]⟩⟩],.slice (some ⟨u4,0,some 0⟩) 1 1),(t2,.slice a2 n2 c2),([fu ⟨⟨[41]⟩⟩],.slice (some ⟨u5,0,some 0⟩) 1 1)] ?_
    refine aD (G8 (ls:=[[fu ⟨⟨[40]⟩⟩],[jw ⟨⟨[105,102]⟩⟩],t3,[jw ⟨⟨[116,104,101,110]⟩⟩],t1,[jw ⟨⟨[101,108,115,101]⟩⟩],t2,[fu ⟨⟨[41]⟩⟩]]) (by simp) (by simp[fT];omega) (by simp[fT];omega)) (next:=λyv _=>?_);generalize Hl:[[fu ⟨⟨[40]⟩⟩],[jw ⟨⟨[105,102]⟩⟩],t3,[jw ⟨⟨[116,104,101,110]⟩⟩],t1,[jw ⟨⟨[101,108,115,101]⟩⟩],t2,[fu ⟨⟨[41]⟩⟩]].flatten=yt;have hyl:yt.length=5+t3.length+t1.length+t2.length:=by rw[<- Hl];simp;omega
    have hyk:lK yt:=by
     refine⟨?_,by omega⟩;rw[<- Hl];simp only[sF,zl,pG,gL,gQ];exact nN (u7 (by simp[mH])) (nN (DT (by simp[sj])) (wY T9.ok (nN (DT (by simp[sj])) (wY ok1.ok (nN (DT (by simp[sj])) (wY DV.ok (nN (u7 (by simp[mH])) DU)))))))
    refine gH (E:=dJ) (v:=yv) (xs:=yt) (by simp) λay cy ey=>?_;subst ey;refine go ?_;refine(bO rfl rfl (Dh (lo:=0) (hi:=L.length - 3) rfl hf (by decide) (.inl ⟨rfl,rfl⟩) (.inr ⟨_,rfl,rfl⟩) (bF _) (by omega))).h ?_;rw[show Value.slice (some ⟨b,0+0*cz.n,some f⟩) (L.length - 3 - 0) (c - 0)=.slice (some ⟨b,0,some f⟩) (L.length - 3) c by rw[pF,pE,pE]];refine go ?_;intro ajj;refine Lv cz (aa:=L) (b:=b) (f:=f) (c:=c) (m:=L.length - 3) (r:=r') (by omega) hf hr' hc ?_;refine jW cz (v:=.slice (some ⟨b,0,some f⟩) (L.length - 3) c) (aa:=L.take (L.length - 3)) (yt,false) (.slice ay yt.length cy) ⟨by rw[dw];omega,by rw[dw];omega,by rw[dw];omega⟩ (λv'=>?_);refine mi cz (v:=v') λa c' e=>?_;subst e;refine go ?_;refine aO (k+1,.slice a _ c',L.take (L.length - 3)++[((yt,false),.slice ay yt.length cy)]) (by show ws.length - (k+1)<ws.length - k;omega) (hI.next hw ?_ hyk (by omega));obtain⟨q1,q2,q3⟩:=h9;simp only[qf]at q1 q2 q3 yP⊢;simp only[dm,qf];rw[if_neg (by decide),if_neg (by decide),if_neg (by simp),if_pos True.intro,if_pos ⟨by omega,yP.trans (by rw[h8]),q2,q3⟩]
   subst h2;refine go ?_;refine gG (λh3=>?_) (λh3=>?_)
   ·have hno:¬fo ws:=hI.bad hw (by simp[dm,h3]);refine go ?_;refine cK (fJ (false=true) (ah cz (.slice none 0 0) [([],false)])) (λw hw e=>by cases e) ?_;exact aj ⟨.slice none 0 0,false,[]⟩ (hv:=rfl) (hp:=⟨⟨(λe=>by cases e),λh=>absurd h hno⟩,(λe=>by cases e)⟩)
   refine go ?_;refine aD MG (next:=λbi _=>?_);refine go ?_;refine aC rfl (λh4=>?_) (λh4=>?_)
   rotate_left
   ·have hno:¬fo ws:=hI.bad hw (by simp[dm];omega);refine go ?_;refine cK (fJ (false=true) (ah cz (.slice none 0 0) [([],false)])) (λw hw e=>by cases e) ?_;exact aj ⟨.slice none 0 0,false,[]⟩ (hv:=rfl) (hp:=⟨⟨(λe=>by cases e),λh=>absurd h hno⟩,(λe=>by cases e)⟩)
   refine go ?_;refine aD MG (next:=λbj _=>?_);obtain⟨m,rfl⟩:=Bo h3;have hm:m<5:=by omega
   have hs:kY[m]? =some (kY[m]'hm):=bf _;generalize kY[m]'hm=s at hs;refine go ?_;refine(rO (b:=bj) (o:=0) (j:=m*1) (cs:=kY.map .string) (v:=.string s) rfl rfl rfl (bz ..) (by rw[gT,om,bX,hs];rfl)).h ?_;refine go ?_;refine aD (DR (s:=s)) (next:=λbs _=>?_);refine go ?_;intro b79;refine jW cz (v:=v) (aa:=L) ([jw s],false) (.slice (some ⟨bs,0,some 0⟩) 1 1) ⟨by omega,by omega,by omega⟩ (λv'=>?_);refine mi cz (v:=v') λa c e=>?_;subst e;refine go ?_;exact aO (k+1,.slice a _ c,L++[(([jw s],false),.slice (some ⟨bs,0,some 0⟩) 1 1)]) (by show ws.length - (k+1)<ws.length - k;omega) (hI.nx hw (by simp[dm];omega) ⟨nN (DT (nW _ (cZ hs))) DU,by simp⟩ (by simp))
  ·subst h1;refine go ?_;refine gG (λh2=>?_) (λh2=>?_)
   ·have hno:¬fo ws:=hI.bad hw (by simp[dm,h2]);refine go ?_;refine cK (fJ (false=true) (ah cz (.slice none 0 0) [([],false)])) (λw hw e=>by cases e) ?_;exact aj ⟨.slice none 0 0,false,[]⟩ (hv:=rfl) (hp:=⟨⟨(λe=>by cases e),λh=>absurd h hno⟩,(λe=>by cases e)⟩)
   refine go ?_;refine aC rfl (λh3=>?_) (λh3=>?_)
   rotate_left
   ·have hno:¬fo ws:=hI.bad hw (by simp[dm];omega);refine go ?_;refine cK (fJ (false=true) (ah cz (.slice none 0 0) [([],false)])) (λw hw e=>by cases e) ?_;exact aj ⟨.slice none 0 0,false,[]⟩ (hv:=rfl) (hp:=⟨⟨(λe=>by cases e),λh=>absurd h hno⟩,(λe=>by cases e)⟩)
   refine go ?_;intro Ho;refine go ?_;intro b53;refine go ?_;refine MF (b:=Ho) ⟨2,⟨⟨[]⟩⟩,n,0⟩ ?_;refine jW cz (v:=v) (aa:=L) ([⟨2,⟨⟨[]⟩⟩,n,0⟩],false) (.slice (some ⟨Ho,0,some 0⟩) 1 1) ⟨by omega,by omega,by omega⟩ (λv'=>?_);refine mi cz (v:=v') λa c e=>?_;subst e;refine go ?_;exact aO (k+1,.slice a _ c,L++[(([⟨2,⟨⟨[]⟩⟩,n,0⟩],false),.slice (some ⟨Ho,0,some 0⟩) 1 1)]) (by show ws.length - (k+1)<ws.length - k;omega) (hI.nx hw (by simp[dm];omega) ⟨nN (.inr (.inr ⟨n,h2,h3,rfl⟩)) DU,by simp⟩ (by simp))
 have DW:k=ws.length:=by omega
 subst DW;have hfl:=hI.fl;rw[fK]at hfl;by_cases hL1:L.length=1
 rotate_left
 ·have hno:¬fo ws:=λh=>by
   have:=h.fl;rw[hfl]at this;have:=congrArg List.length (Option.some.inj this);rw[qf]at this;exact hL1 this
  refine mi cz (v:=v) λa c e=>?_;subst e;refine go ?_;refine gG (λh1=>?_) (λh1=>?_)
  ·omega
  refine go ?_;refine gG (λh2=>?_) (λh2=>?_)
  rotate_left
  ·omega
  refine go ?_;refine(acQ rfl rfl rfl rfl rfl (by repeat (first|with_reducible exact ai.here|with_reducible apply ai.there)) rfl (λr hr=>by rw[di.1 hr];rfl)).h ?_;refine go ?_;refine cK (fJ (false=true) (ah cz (.slice a L.length c) [([],false)])) (λw hw e=>by cases e) ?_;exact aj ⟨.slice a L.length c,false,[]⟩ (hv:=rfl) (hp:=⟨⟨(λe=>by cases e),λh=>absurd h hno⟩,(λe=>by cases e)⟩)
 obtain⟨p,rfl⟩:∃p,L=[p]:=by
  match L,hL1 with
  |[p],_=>exact⟨p,rfl⟩
 obtain⟨a1,n1,c1,e1⟩:=hI.sl p (di.2 rfl);have ok1:=hI.ok p (di.2 rfl);obtain⟨⟨t1,g1⟩,v1⟩:=p;dsimp only at e1 ok1;subst e1
 have ht1:t1.length<=2048:=by have:mI [(((t1,g1),Value.slice a1 n1 c1):ni)]=t1.length:=by simp[mI]
                              omega
 refine tJ cz (v:=v) (aa:=[((t1,g1),.slice a1 n1 c1)]) (by simp) λb f c r hf hr hc e=>?_;subst e;rw[show aW cz [((t1,g1),.slice a1 n1 c1)]++r=.slice a1 n1 c1::.bool g1::r from rfl];refine go ?_;refine gG (λh1=>?_) (λh1=>?_)
 ·omega
 refine go ?_;rw[show(Value.slice a1 n1 c1::Value.bool g1::r)=aW cz [((t1,g1),.slice a1 n1 c1)]++r from rfl];refine Ao cz (aa:=[((t1,g1),.slice a1 n1 c1)]) (b:=b) (f:=f) (c:=c) (m:=1) (r:=r) rfl hf hr hc ?_;refine bG (rU cz (v:=.slice (some ⟨b,0,some f⟩) 1 c) (aa:=[((t1,g1),.slice a1 n1 c1)])) (h:=?_);have hiff:(!g1)=true↔fo ws:=by
  constructor
  ·intro h;exact⟨hl,by rw[hfl];show some [g1]=_;cases g1<;>simp_all⟩
  ·intro h;have:=h.fl;rw[hfl]at this;have:=Option.some.inj this;cases g1
   ·rfl
   ·cases this
 refine cK (fJ ((!g1)=true) (ah cz (.slice (some ⟨b,0,some f⟩) 1 c) [(t1,false)])) (λw hw e=>?_) ?_
 ·have:g1=false:=by cases g1<;>simp_all
  subst this;exact hw (ah cz (.slice (some ⟨b,0,some f⟩) 1 c) [(t1,false)]) (bz ..)
 exact aj ⟨.slice (some ⟨b,0,some f⟩) 1 c,!g1,t1⟩ (hv:=rfl) (hp:=⟨hiff,λ_=>⟨ok1,ht1⟩⟩)
