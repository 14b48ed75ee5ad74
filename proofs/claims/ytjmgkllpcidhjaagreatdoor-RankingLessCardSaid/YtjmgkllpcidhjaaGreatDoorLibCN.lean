/-
  The text of tokens; points.Check.
-/
import Derived.Test.YtjmgkllpcidhjaaGreatDoorLibBN
import Derived.Test.YtjmgkllpcidhjaaGreatDoorSaneAN
import Derived.Lib.ItoaLen
set_option linter.all false
set_option maxRecDepth 10000
set_option maxHeartbeats 4000000
namespace Go.Proofs.YtjmgkllpcidhjaaGreatDoor
open Go.Ideal Rk
noncomputable def Ua:eX:=⟨39,[(.tmp 2),(.tmp 3)],(.seq (kO [⟨⟨(some 2),none,(.bI (.const vE))⟩,[]⟩,kS 3 (.bI (kI 0))]) (.seq (kO [kM 7 0,kS 8 (.jf 7),⟨⟨(some 9),none,(.vP 9 1 16 [vE] 8 8)⟩,[]⟩,kS 4 (.bI 9)]) (.seq (.seq (kO [kM 10 0,kS 11 (.jf 10),kS 12 (.mv (kI 0))]) (.block 0 (.loop (.seq (kO [kS 13 (.bin .lss 3 12 11)]) (.seq (.cond 13 .skip (.exit 0)) (.seq (.block 1 (.seq (kO [kM 14 12,kS 15 (.fB 4 10 12),kS 16 (.mO 4 15),⟨⟨(some 6),none,(.new [vI,vE,vI,vI] 135)⟩,[]⟩,kS 5 (.bI 14),kN (.store 4 6 16)]) (.block 2 (.seq (kO [kS 23 (.mO 4 6),kS 24 (kC 111 [23]),kS 25 (.un .not 24),kS 22 (.bI 25)]) (.cond 22 (.seq (kO [⟨⟨(some 2),none,(.bI (.const vE))⟩,[]⟩,kS 3 (.bI (kI 100))]) .ret) (.seq (kO [kS 27 (.dH 0 6),kS 28 (.aP 27),kS 29 (.bin .eql 3 28 (kI 2)),kS 26 (.bI 29)]) (.cond 26 (kO [kM 30 4,kM 31 5,kS 32 (.dH 2 6),kS 33 (.aP 32),kS 34 (kC 112 [33]),kS 35 (.fB 1 30 31),kN (.store 1 35 34)]) (kO [kM 17 4,kM 18 5,kS 19 (.dH 1 6),kS 20 (.aP 19),kS 21 (.fB 1 17 18),kN (.store 1 21 20)])))))))) (kO [kS 36 (.bin .add 3 12 (kI 1)),kM 12 36]))))))) (.seq (kO [kM 37 4,⟨⟨(some 38),none,(kC 113 [37,(.const (.string ⟨⟨[32]⟩⟩))])⟩,[]⟩,kS 2 (.bI 38),kS 3 (.bI (kI 0))]) .ret))))⟩
theorem aeP:ja Tryz.prog 82=some Ua:=by kernel_rfl
theorem aeQ{ρ:Operand->Value}{x:Operand}{s:ByteArray}(hx:ρ x=.string s):Pu Tryz.prog ρ (.IB x) (.int .i64 (s.size:Int)):=λh=>by simp only[ak.run,hx,Fs]
theorem aeR{ρ:Operand->Value}{x i:Operand}{s:ByteArray}{k:Nat}{kk:IntKind}{c:UInt8}(hx:ρ x=.string s)(hi:ρ i=.int kk (.ofNat k))(hc:iq s.data.toList k=some c):Pu Tryz.prog ρ (.Iz x i) (.int .u8 c.toNat):=λh=>by simp only[ak.run,hx,hi,hc]
theorem aeS{s:ByteArray}(hs:s∈sj):eY Tryz.prog 125 [.string s] [] (.bool true):=by
 simp only[sj,kY,pG,gL,aU,xy,or_false]at hs;rcases hs with rfl|rfl|rfl|rfl|rfl|rfl|rfl|rfl|rfl|rfl<;>exact wO λh K=>by kernel_rfl
theorem aeT{c:UInt8}(hc:eY Tryz.prog 126 [.int .u8 c.toNat] [] (.int .i64 4)):eY Tryz.prog 111 [.agg ⟨[.int .i64 3,.string ⟨⟨[c]⟩⟩,.int .i64 0,.int .i64 0]⟩] [] (.bool true):=by
 refine aX _ (bN 111) λB w0=>?_;refine go ?_;intro b;refine go ?_;refine(bO rfl rfl (aeQ rfl)).h ?_;refine go ?_;refine(bO rfl rfl (aeR (c:=c) rfl rfl rfl)).h ?_;refine go ?_;refine aD hc (next:=λ_ _=>?_);refine go ?_;exact aj () (hv:=rfl) (hp:=trivial)
theorem aeU{t:Tok}(h:qR t):eY Tryz.prog 111 [.agg ⟨[.int .i64 t.k,.string t.s,.int .i64 t.n,.int .i64 t.at_]⟩] [] (.bool true):=by
 rcases h with⟨s,hs,rfl⟩|⟨s,hs,rfl⟩|⟨n,h0,h1,rfl⟩
 ·simp only[mH,aU,xy,or_false]at hs;rcases hs with rfl|rfl|rfl|rfl|rfl|rfl|rfl|rfl<;>exact aeT (wO λh K=>by kernel_rfl)
 ·dsimp only[jw];refine aX _ (bN 111) λB w0=>?_;refine go ?_;intro b;refine go ?_;refine aD (aeS hs) (next:=λ_ _=>?_);refine go ?_;exact aj () (hv:=rfl) (hp:=trivial)
 ·refine aX _ (bN 111) λB w0=>?_;refine go ?_;intro b;refine go ?_;refine gG (λh2=>?_) (λh2=>?_)
  ·exact absurd h2 (by simp)
  refine go ?_;refine gG (λh3=>?_) (λh3=>?_)
  ·exact absurd h0 h3
  refine go ?_;refine aj () (hv:=?_) (hp:=trivial);show Value.bool (decide (n<=1099511627776))=Value.bool true;rw[eH (by omega)]
theorem aeV{t:Tok}(h:qR t):t.s.data.size<=64:=by
 rcases h with⟨s,hs,rfl⟩|⟨s,hs,rfl⟩|⟨n,h0,h1,rfl⟩
 ·simp only[mH,aU,xy,or_false]at hs;rcases hs with rfl|rfl|rfl|rfl|rfl|rfl|rfl|rfl<;>decide
 ·simp only[sj,kY,pG,gL,aU,xy,or_false]at hs;rcases hs with rfl|rfl|rfl|rfl|rfl|rfl|rfl|rfl|rfl|rfl<;>decide
 ·exact(by decide:(0:Nat)<=64)
theorem Ub:∀{l:List ByteArray},(∀s∈l,s.data.size<=64)->Lib.lens (l.map (·.data.toList))<=l.length*64
 |[],_=>aH _
 |s::l,h=>by
  have h1:=Ub (l:=l) λx hx=>h x (dh _ hx);have h2:=h s (bz ..);have h3:Lib.lens ((s::l).map (·.data.toList))=s.data.size+Lib.lens (l.map (·.data.toList)):=by simp[Lib.lens]
  rw[h3,qh];omega
theorem aeW{l:List ByteArray}(hl:l.length<=2048)(h:∀s∈l,s.data.size<=64):(oK l ⟨⟨[32]⟩⟩).data.size<=140737488355328:=by
 unfold oK;cases l with
 |nil=>decide
 |cons s l=>
  have h1:=Ub h;have h2:=Lib.join_length s.data.toList (l.map (·.data.toList)) [32];rw[mJ]at h1⊢;simp only[List.size_toArray];rw[h2];simp only[qh,bC,ql]at hl h1⊢;omega
theorem aeX(n:Nat):zeros [.string ⟨⟨[]⟩⟩] n=(List.replicate n (⟨⟨[]⟩⟩:ByteArray)).map .string:=by
 induction n with
 |zero=>rfl
 |succ n ih=>rw[Il,mJ,<- ih];rfl
theorem aeY{n:Int}(h0: -9223372036854775808<=n)(h1:n<=9223372036854775807):bD Tryz.prog (.func 112) [.int .i64 n] [] [] [lG 0 mh] (λ_:Unit=>.string ⟨(Lib.itoa n).toArray⟩) (λ_=>[]) (λ_=>[]) (λ_=>True):=by
 obtain⟨fn,body,f1,f2,f3⟩:=GN (k:=112) (by kernel_rfl);exact acJ ad4 f1 f2 f3 wT (by rw[globals];decide) yN h0 h1
theorem aeZ{v:Value}{xs:List ByteArray}(hne:0<xs.length)(hl:xs.length<=2048)(h:∀s∈xs,s.data.size<=64):bD Tryz.prog (.func 113) [v,.string ⟨⟨[32]⟩⟩] [] [] [ah eZ v xs] (λ_:Unit=>.string (oK xs ⟨⟨[32]⟩⟩)) (λ_=>[]) (λ_=>[]) (λ_=>True):=by
 obtain⟨fn,body,f1,f2,f3⟩:=GN (k:=113) (by kernel_rfl);exact acK joins f1 f2 f3 hne (by omega) (aeW hl h)
theorem ae0{va:Value}{ts:List Tok}(h:lK ts)(hl:ts.length<=2048):bD Tryz.prog (.func 82) [va] [] [] [lG 0 mh,ah dJ va ts] (λs:ByteArray=>.tuple ⟨[.string s,.int .i64 0]⟩) (λ_=>[]) (λ_=>[]) (λ_=>True):=by
 refine aX Ua aeP λB w0=>?_;refine go ?_;refine FT ts.length ⟨by omega,by omega,by omega⟩ (λb=>?_);rw[aeX];refine go ?_;refine bE (λy:Nat×List ByteArray=>ts.length - y.1) (λy=>[(12,.int .i64 (y.1:Int))]) (λy=>[pt b (.cells (y.2.map .string))]) (λ_=>[]) (λy=>y.1<=ts.length/\y.2.length=ts.length/\∀s∈y.2,s.data.size<=64) (0,List.replicate ts.length ⟨⟨[]⟩⟩) ⟨bF _,qo,λs hs=>by rw[V5 hs];decide⟩ (body:=?_);rintro⟨k,ss⟩ ⟨hk,hsl,hsz⟩;dsimp only at hk hsl hsz⊢;have hset:∀{s:ByteArray},s.data.size<=64->∀x∈ss.set k s,x.data.size<=64:=λhs x hx=>by
  rcases List.mem_or_eq_of_mem_set hx with hx|hx
  ·exact hsz x hx
  ·rw[hx];exact hs
 refine go ?_;refine aC rfl (λh1=>?_) (λh1=>?_)
 ·refine go ?_;refine bJ dJ (k:=k) (next:=λbt ot t _ ht=>?_);have hok:=h.ok t (cZ ht);refine go ?_;intro b6;refine go ?_;refine aD (aeU hok) (next:=λ_ _=>?_);refine go ?_;refine aC rfl (λh2=>?_) (λh2=>?_)
  ·have hn:0<=t.n/\t.n<=1048576:=by
    rcases hok with⟨s,_,rfl⟩|⟨s,_,rfl⟩|⟨n,g0,g1,rfl⟩
    ·exact⟨Int.le_refl _,(by decide:(0:Int)<=1048576)⟩
    ·exact⟨Int.le_refl _,(by decide:(0:Int)<=1048576)⟩
    ·exact⟨g0,g1⟩
   refine go ?_;refine aD (aeY (n:=t.n) (by omega) (by omega)) (next:=λ_ _=>?_);refine go ?_;refine p9 (cs:=ss.map .string) (cs':=(ss.set k ⟨(Lib.itoa t.n).toArray⟩).map .string) (o:=0+k*1) (v:=.string ⟨(Lib.itoa t.n).toArray⟩) (by rw[dD,gT,pI]) (by rw[bC];omega) ?_;refine go ?_;exact aO (k+1,ss.set k ⟨(Lib.itoa t.n).toArray⟩) (by show ts.length - (k+1)<ts.length - k;omega) ⟨by show k+1<=_;omega,by rw[List.length_set];exact hsl,hset (by have:=Lib.itoa_length_le t.n (by omega) (by omega);simp only[List.size_toArray];omega)⟩
  ·refine go ?_;refine p9 (cs:=ss.map .string) (cs':=(ss.set k t.s).map .string) (o:=0+k*1) (v:=.string t.s) (by rw[dD,gT,pI]) (by rw[bC];omega) ?_;refine go ?_;exact aO (k+1,ss.set k t.s) (by show ts.length - (k+1)<ts.length - k;omega) ⟨by show k+1<=_;omega,by rw[List.length_set];exact hsl,hset (aeV hok)⟩
 have hpos:=h.pos;refine go ?_;refine bG (eP (b:=b) (cs:=ss.map .string)) (h:=?_);refine cK (ah eZ (.slice (some ⟨b,0,some 0⟩) ts.length ts.length) ss) (λw hw=>G9 hsl.symm (hw _ (bz ..)) (by omega)) ?_;refine aD (aeZ (xs:=ss) (by omega) (by omega) hsz) (next:=λ_ _=>?_);refine go ?_;exact aj (oK ss ⟨⟨[32]⟩⟩) (hv:=rfl) (hp:=trivial)
theorem ae1{vp:Value}{ws:List eD}:bD Tryz.prog (.func 56) [vp] [] [] [lG 0 mh,ah fw vp ws] (λy:ByteArray×Int=>.tuple ⟨[.string y.1,.int .i64 y.2]⟩) (λ_=>[]) (λ_=>[]) (λy=>(fo ws->y.2=0)/\(¬fo ws->y.2=520)):=by
 refine aX _ (bN 56) λB w0=>?_;refine go ?_;refine aC rfl (λh1=>?_) (λh1=>?_)
 ·refine go ?_;exact aj (⟨⟨[]⟩⟩,520) (hv:=rfl) (hp:=⟨λh=>by have:=h.len;omega,λ_=>rfl⟩)
 refine go ?_;refine aD (aeN (ws:=ws) (by omega)) (next:=λy hy=>?_);obtain⟨v,ok,ts⟩:=y;obtain⟨hy1,hy2⟩:=hy;dsimp only at hy1 hy2⊢;refine go ?_;refine iy rfl (λh2=>?_) (λh2=>?_)
 ·refine go ?_;exact aj (⟨⟨[]⟩⟩,520) (hv:=rfl) (hp:=⟨(λh=>by rw[hy1.2 h]at h2;cases h2),λ_=>rfl⟩)
 have h2:ok=true:=by cases ok<;>simp_all
 have hz:=hy2 h2;refine cK (ah cz v [(ts,false)]) (λw hw=>hw _ (bz ..) h2) ?_;refine go ?_;refine bJ cz (k:=0) (xs:=[(ts,false)]) (v:=v) (h1:=by simp) (next:=λb o p (y:Value) hp=>?_);cases hp;refine go ?_;refine aD (ae0 hz.1 hz.2) (next:=λs _=>?_);refine go ?_;exact aj (s,0) (hv:=rfl) (hp:=⟨λ_=>rfl,λh=>absurd (hy1.1 h2) h⟩)
theorem Uc{vp:Value}{ws:List eD}:bD Tryz.prog (.func 37) [vp] [] [] [lG 0 mh,ah fw vp ws] (λy:Int=>.int .i64 y) (λ_=>[]) (λ_=>[]) (λy=>(fo ws->y=0)/\(¬fo ws->y=520)):=by
 refine aX _ (bN 37) λB w0=>?_;refine go ?_;refine aD (ae1 (ws:=ws)) (next:=λy hy=>?_);refine go ?_;exact aj y.2 (hv:=rfl) (hp:=hy)
