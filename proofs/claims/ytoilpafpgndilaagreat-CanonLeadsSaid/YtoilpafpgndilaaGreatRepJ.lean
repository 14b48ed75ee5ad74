/- Part. -/
import Derived.Test.YtoilpafpgndilaaGreatLibAHJ
set_option linter.all false
set_option maxHeartbeats 1000000
namespace Go.Proofs.YtoilpafpgndilaaGreat
open Go.Ideal Go.ChangeShapes Go.WideShapes Go.ChangeAt Go.RowKit Kd Canon
theorem Vz:ownKnob Tryz.prog.godebug=none:=by kernel_rfl
theorem VA:Kids Tryz.prog (·<Tryz.prog.types.size):=kids_rows (by kernel_rfl) (by kernel_rfl)
theorem VB:∀t e,t<Tryz.prog.types.size->Tryz.prog.underlying t=some (.slice e)->0<Tryz.prog.cellsOf e:=slices_full_of Tryz.prog (by kernel_rfl)
def E8:ae aD:=[41,24,29,3,35,37,38,39,9,153,30,246,31,152,32,94,33,155,22,76]
theorem ar2:∀t,t∈E8->PlainT Tryz.prog (·∈E8) t:=Yc (by kernel_rfl)
theorem ar3:∀t,t∈E8->t<Tryz.prog.types.size:=λt ht=>by
 have h:E8.all (λt=>Nat.ble (t+1) Tryz.prog.types.size)=true:=by kernel_rfl
 exact pq (jy.1 h t ht)
theorem VC:kD Tryz.prog 41=true:=by kernel_rfl
theorem O8:kD Tryz.prog 24=true:=by kernel_rfl
theorem oG:jE Tryz.prog 3 ai mF:=aiq Tryz.underlying3
theorem BQ:jE Tryz.prog 9 jR (λ_=>True):=air Tryz.underlying9
theorem KD:jE Tryz.prog 29 (az ai) (rT mF):=zx Tryz.underlying29 (by kernel_rfl) oG
theorem adE:jE Tryz.prog 153 (az jR) (rT λ_=>True):=zx Tryz.underlying153 (by kernel_rfl) BQ
theorem VD:jE Tryz.prog 38 (az (az ai)) (rT (rT mF)):=zx Tryz.underlying38 (by kernel_rfl) KD
theorem ar4:jE Tryz.prog 39 (az (az (az ai))) (rT (rT (rT mF))):=zx Tryz.underlying39 (by kernel_rfl) VD
set_option maxRecDepth 100000 in
theorem ar5:jE Tryz.prog 246 kF (λ_=>True):=
 (A8 Tryz.underlying246 (by kernel_rfl) (by kernel_rfl) (.cons BQ (by kernel_rfl) (.cons oG (by kernel_rfl) .nil))).conv (λa y hG=>⟨⟨a.1,a.2.1⟩,(),rfl,rfl,trivial⟩)
def VE(r:qV):Prop:=r.lists.length<2^63/\∀l∈r.lists,l.length<2^63
set_option maxRecDepth 100000 in
theorem ar6:jE Tryz.prog 152 lG VE:=
 (A8 Tryz.underlying152 (by kernel_rfl) (by kernel_rfl) (.cons BQ (by kernel_rfl) (.cons VD (by kernel_rfl) .nil))).conv (λa y hG=>⟨⟨a.1,a.2.1⟩,y.2.1,rfl,rfl,⟨hG.2.1.1,λl hl=>(hG.2.1.2 l hl).1⟩⟩)
set_option maxRecDepth 100000 in
theorem Gx:jE Tryz.prog 94 eZ (λ_=>True):=
 (A8 Tryz.underlying94 (by kernel_rfl) (by kernel_rfl) (.cons BQ (by kernel_rfl) (.cons BQ (by kernel_rfl) (.cons oG (by kernel_rfl) (.cons oG (by kernel_rfl) (.cons oG (by kernel_rfl) (.cons oG (by kernel_rfl) .nil))))))).conv
   (λa y hG=>⟨⟨a.1,a.2.1,a.2.2.1,a.2.2.2.1,a.2.2.2.2.1,a.2.2.2.2.2.1⟩,(),rfl,rfl,trivial⟩)
def VF(r:dP):Prop:=r.names.length<2^63/\r.others.length<2^63
set_option maxRecDepth 100000 in
theorem yG:jE Tryz.prog 155 bZ VF:=
 (A8 Tryz.underlying155 (by kernel_rfl) (by kernel_rfl) (.cons BQ (by kernel_rfl) (.cons BQ (by kernel_rfl) (.cons oG (by kernel_rfl) (.cons oG (by kernel_rfl) (.cons adE (by kernel_rfl) (.cons adE (by kernel_rfl)
   (.cons oG (by kernel_rfl) (.cons oG (by kernel_rfl) (.cons oG (by kernel_rfl) (.cons oG (by kernel_rfl) (.cons BQ (by kernel_rfl) (.cons oG (by kernel_rfl) .nil))))))))))))).conv
   (λa y hG=>⟨⟨a.1,a.2.1,a.2.2.1,a.2.2.2.1,a.2.2.2.2.1,a.2.2.2.2.2.1,a.2.2.2.2.2.2.1,a.2.2.2.2.2.2.2.1,a.2.2.2.2.2.2.2.2.1,a.2.2.2.2.2.2.2.2.2.1,a.2.2.2.2.2.2.2.2.2.2.1,a.2.2.2.2.2.2.2.2.2.2.2.1⟩,(y.2.2.2.2.1,y.2.2.2.2.2.1),rfl,rfl,⟨hG.2.2.2.2.1.1,hG.2.2.2.2.2.1.1⟩⟩)
theorem ar7:jE Tryz.prog 30 (az kF) (rT λ_=>True):=zx Tryz.underlying30 (by kernel_rfl) ar5
theorem ar8:jE Tryz.prog 31 (az lG) (rT VE):=zx Tryz.underlying31 (by kernel_rfl) ar6
theorem ar9:jE Tryz.prog 32 (az eZ) (rT λ_=>True):=zx Tryz.underlying32 (by kernel_rfl) Gx
theorem asa:jE Tryz.prog 33 (az bZ) (rT VF):=zx Tryz.underlying33 (by kernel_rfl) yG
structure asb(d:dQ):Prop where
 w:mF d.w
 h:mF d.h
 holes:d.holes.length<2^63
 fB:d.symbols.length<2^63
 regs:rT VE d.regions
 om:d.bV.length<2^63
 qZ:rT VF d.rules
def ase:Enc dQ:=⟨10,ah×ah×ah×ah×ah,λd y=>oM d y.1 y.2.1 y.2.2.1 y.2.2.2.1 y.2.2.2.2,λd y=>uF d y.1 y.2.1 y.2.2.1 y.2.2.2.1 y.2.2.2.2,λ_ _=>rfl⟩
set_option maxRecDepth 100000 in
theorem asf:jE Tryz.prog 35 ase asb:=
 (A8 Tryz.underlying35 (by kernel_rfl) (by kernel_rfl) (.cons BQ (by kernel_rfl) (.cons oG (by kernel_rfl) (.cons oG (by kernel_rfl) (.cons oG (by kernel_rfl) (.cons oG (by kernel_rfl) (.cons KD (by kernel_rfl)
   (.cons ar7 (by kernel_rfl) (.cons ar8 (by kernel_rfl) (.cons ar9 (by kernel_rfl) (.cons asa (by kernel_rfl) .nil))))))))))).conv
   (λa y hG=>⟨⟨a.1,a.2.1,a.2.2.1,a.2.2.2.1,a.2.2.2.2.1,a.2.2.2.2.2.1,a.2.2.2.2.2.2.1,a.2.2.2.2.2.2.2.1,a.2.2.2.2.2.2.2.2.1,a.2.2.2.2.2.2.2.2.2.1⟩,(y.2.2.2.2.2.1,y.2.2.2.2.2.2.1,y.2.2.2.2.2.2.2.1,y.2.2.2.2.2.2.2.2.1,y.2.2.2.2.2.2.2.2.2.1),rfl,rfl,
     ⟨hG.2.2.2.1,hG.2.2.2.2.1,hG.2.2.2.2.2.1.1,hG.2.2.2.2.2.2.1.1,hG.2.2.2.2.2.2.2.1,hG.2.2.2.2.2.2.2.2.1.1,hG.2.2.2.2.2.2.2.2.2.1⟩⟩)
structure ash(g:bQ):Prop where
 w:mF g.w
 h:mF g.h
 holes:g.holes.length<2^63
 cells:g.cells.length<2^63
def asi:Enc bQ:=⟨5,ah×ah,λg y=>oz g y.1 y.2,λg y=>tQ g y.1 y.2,λ_ _=>rfl⟩
set_option maxRecDepth 100000 in
theorem asj:jE Tryz.prog 37 asi ash:=
 (A8 Tryz.underlying37 (by kernel_rfl) (by kernel_rfl) (.cons oG (by kernel_rfl) (.cons oG (by kernel_rfl) (.cons oG (by kernel_rfl) (.cons KD (by kernel_rfl) (.cons KD (by kernel_rfl) .nil)))))).conv
   (λa y hG=>⟨⟨a.1,a.2.1,a.2.2.1,a.2.2.2.1,a.2.2.2.2.1⟩,(y.2.2.2.1,y.2.2.2.2.1),rfl,rfl,⟨hG.2.1,hG.2.2.1,hG.2.2.2.1.1,hG.2.2.2.2.1.1⟩⟩)
abbrev KV:=ah×ah×ah×ah×ah×ah×ah×ah×ah
def asl:Enc aQ:=⟨17,KV,λk y=>jO k y.1 y.2.1 y.2.2.1 y.2.2.2.1 y.2.2.2.2.1 y.2.2.2.2.2.1 y.2.2.2.2.2.2.1 y.2.2.2.2.2.2.2.1 y.2.2.2.2.2.2.2.2,λk y=>iT k y.1 y.2.1 y.2.2.1 y.2.2.2.1 y.2.2.2.2.1 y.2.2.2.2.2.1 y.2.2.2.2.2.2.1 y.2.2.2.2.2.2.2.1 y.2.2.2.2.2.2.2.2 [],λ_ _=>rfl⟩
set_option maxRecDepth 100000 in
theorem VG:jE Tryz.prog 41 asl Bv:=
 (A8 Tryz.underlying41 (by kernel_rfl) (by kernel_rfl) (.cons asf (by kernel_rfl) (.cons asj (by kernel_rfl) (.cons VD (by kernel_rfl) (.cons ar4 (by kernel_rfl) .nil))))).conv
   (λa y hG=>⟨⟨a.1,a.2.1,a.2.2.1,a.2.2.2.1⟩,(y.1.1,y.1.2.1,y.1.2.2.1,y.1.2.2.2.1,y.1.2.2.2.2,y.2.1.1,y.2.1.2,y.2.2.1,y.2.2.2.1),rfl,rfl,
     ⟨hG.1.w,hG.1.h,hG.2.1.w,hG.2.1.h,hG.1.holes,hG.1.fB,hG.1.regs.1,hG.1.regs.2,hG.1.om,hG.1.qZ.1,hG.1.qZ.2,hG.2.1.holes,hG.2.1.cells,⟨hG.2.2.1.1,λl hl=>(hG.2.2.1.2 l hl).1⟩,
      ⟨hG.2.2.2.1.1,λl hl=>⟨(hG.2.2.2.1.2 l hl).1,λm hm=>((hG.2.2.2.1.2 l hl).2 m hm).1⟩⟩⟩⟩)
def adF(g:Clue):Prop:=g.values.length<2^63
set_option maxRecDepth 100000 in
theorem asn:jE Tryz.prog 76 aY adF:=
 (A8 Tryz.underlying76 (by kernel_rfl) (by kernel_rfl) (.cons oG (by kernel_rfl) (.cons oG (by kernel_rfl) (.cons KD (by kernel_rfl) .nil)))).conv (λa y hG=>⟨⟨a.1,a.2.1,a.2.2.1⟩,y.2.2.1,rfl,rfl,hG.2.2.1.1⟩)
theorem aso:jE Tryz.prog 22 (az aY) (rT adF):=zx Tryz.underlying22 (by kernel_rfl) asn
set_option maxRecDepth 100000 in
theorem O9:jE Tryz.prog 24 (az aY) xB:=
 (A8 Tryz.underlying24 (by kernel_rfl) (by kernel_rfl) (.cons aso (by kernel_rfl) .nil)).conv (λa y hG=>⟨a.1,y.1,rfl,rfl,⟨hG.1.1,hG.1.2⟩⟩)
def asq:ae aD:=[57,5,41,24,29,3,35,37,38,39,9,153,30,246,31,152,32,94,33,155,22,76]
theorem adG:kD Tryz.prog 57=false:=by kernel_rfl
theorem asr:jE Tryz.prog 5 zV (λx=>0<=x/\x<256):=λw H d cs hz r=>by
 obtain⟨n,rfl,_,h⟩:=r.mP Tryz.underlying5;refine⟨n,(),rfl,(λf hf=>by cases hf),?_⟩;simp only[Lit.wf,IntKind.min,IntKind.max,IntKind.signed,IntKind.bits,eP,z8]at h;simp at h;exact⟨by omega,by omega⟩
theorem adH:jE Tryz.prog 57 (az zV) (rT λx=>0<=x/\x<256):=zx Tryz.underlying57 (by kernel_rfl) asr
def zX:ae aD:=60::asq
theorem adI:∀t,t∈zX->PlainT Tryz.prog (·∈zX) t:=Yc (by kernel_rfl)
theorem adJ:∀t,t∈zX->t<Tryz.prog.types.size:=λt ht=>by
 have h:zX.all (λt=>Nat.ble (t+1) Tryz.prog.types.size)=true:=by kernel_rfl
 exact pq (jy.1 h t ht)
theorem adK:kD Tryz.prog 60=false:=by kernel_rfl
def ass:Enc Nat:=⟨1,Unit,λx _=>[.int .u16 (x:Int)],λ_ _=>[],λ_ _=>rfl⟩
theorem adL:jE Tryz.prog 60 ass (λx=>x<65536):=λw H d cs hz r=>by
 obtain⟨n,rfl,_,h⟩:=r.mP Tryz.underlying60;simp only[Lit.wf,IntKind.min,IntKind.max,IntKind.signed,IntKind.bits,eP,z8]at h;simp at h;obtain⟨m,rfl⟩:=gV (show 0<=n by omega);exact⟨m,(),rfl,(λf hf=>by cases hf),by omega⟩
