/-
  The text of tokens; points.Check.
-/
import Derived.Test.YtbdaaopebgcnaaaGreatDoorLibBM
import Derived.Test.YtbdaaopebgcnaaaGreatDoorSaneHM
import Derived.Lib.ItoaLen
set_option linter.all false
set_option maxRecDepth 10000
set_option maxHeartbeats 4000000
namespace Go.Proofs.YtbdaaopebgcnaaaGreatDoor
open Go.Ideal Rk
noncomputable def UB:eU:=⟨39,[(.tmp 2),(.tmp 3)],(.seq (kO [⟨⟨(some 2),none,(.bF (.const vE))⟩,[]⟩,kS 3 (.bF (kI 0))]) (.seq (kO [kM 7 0,kS 8 (.jw 7),⟨⟨(some 9),none,(.wJ 9 1 16 [vE] 8 8)⟩,[]⟩,kS 4 (.bF 9)]) (.seq (.seq (kO [kM 10 0,kS 11 (.jw 10),kS 12 (.mv (kI 0))]) (.block 0 (.loop (.seq (kO [kS 13 (.bin .lss 3 12 11)]) (.seq (.cond 13 .skip (.exit 0)) (.seq (.block 1 (.seq (kO [kM 14 12,kS 15 (.gq 4 10 12),kS 16 (.ni 4 15),⟨⟨(some 6),none,(.new [vI,vE,vI,vI] 172)⟩,[]⟩,kS 5 (.bF 14),kN (.store 4 6 16)]) (.block 2 (.seq (kO [kS 23 (.ni 4 6),kS 24 (kC 131 [23]),kS 25 (.un .not 24),kS 22 (.bF 25)]) (.cond 22 (.seq (kO [⟨⟨(some 2),none,(.bF (.const vE))⟩,[]⟩,kS 3 (.bF (kI 100))]) .ret) (.seq (kO [kS 27 (.dG 0 6),kS 28 (.aM 27),kS 29 (.bin .eql 3 28 (kI 2)),kS 26 (.bF 29)]) (.cond 26 (kO [kM 30 4,kM 31 5,kS 32 (.dG 2 6),kS 33 (.aM 32),kS 34 (kC 132 [33]),kS 35 (.gq 1 30 31),kN (.store 1 35 34)]) (kO [kM 17 4,kM 18 5,kS 19 (.dG 1 6),kS 20 (.aM 19),kS 21 (.gq 1 17 18),kN (.store 1 21 20)])))))))) (kO [kS 36 (.bin .add 3 12 (kI 1)),kM 12 36]))))))) (.seq (kO [kM 37 4,⟨⟨(some 38),none,(kC 133 [37,(.const (.string ⟨⟨[32]⟩⟩))])⟩,[]⟩,kS 2 (.bF 38),kS 3 (.bF (kI 0))]) .ret))))⟩
theorem aeU:jN Tryz.prog 110=some UB:=by kernel_rfl
theorem aeV{ρ:Operand->Value}{x:Operand}{s:ByteArray}(hx:ρ x=.string s):Pu Tryz.prog ρ (.JB x) (.int .i64 (s.size:Int)):=λh=>by simp only[au.run,hx,FO]
theorem aeW{ρ:Operand->Value}{x i:Operand}{s:ByteArray}{k:Nat}{kk:IntKind}{c:UInt8}(hx:ρ x=.string s)(hi:ρ i=.int kk (.ofNat k))(hc:iG s.data.toList k=some c):Pu Tryz.prog ρ (.Jy x i) (.int .u8 c.toNat):=λh=>by simp only[au.run,hx,hi,hc]
theorem aeX{s:ByteArray}(hs:s∈tV):gy Tryz.prog 141 [.string s] [] (.bool true):=by
 simp only[tV,lG,fE,dI,bD,zu,or_false]at hs;rcases hs with rfl|rfl|rfl|rfl|rfl|rfl|rfl|rfl|rfl|rfl<;>exact xE λh K=>by kernel_rfl
theorem aeY{c:UInt8}(hc:gy Tryz.prog 142 [.int .u8 c.toNat] [] (.int .i64 4)):gy Tryz.prog 131 [.agg ⟨[.int .i64 3,.string ⟨⟨[c]⟩⟩,.int .i64 0,.int .i64 0]⟩] [] (.bool true):=by
 refine aT _ (bz 131) λB w0=>?_;refine go ?_;intro b;refine go ?_;refine(bC rfl rfl (aeV rfl)).h ?_;refine go ?_;refine(bC rfl rfl (aeW (c:=c) rfl rfl rfl)).h ?_;refine go ?_;refine aB hc (next:=λ_ _=>?_);refine go ?_;exact aj () (hv:=rfl) (hp:=trivial)
theorem aeZ{t:Tok}(h:rX t):gy Tryz.prog 131 [.agg ⟨[.int .i64 t.k,.string t.s,.int .i64 t.n,.int .i64 t.at_]⟩] [] (.bool true):=by
 rcases h with⟨s,hs,rfl⟩|⟨s,hs,rfl⟩|⟨n,h0,h1,rfl⟩
 ·simp only[mZ,bD,zu,or_false]at hs;rcases hs with rfl|rfl|rfl|rfl|rfl|rfl|rfl|rfl<;>exact aeY (xE λh K=>by kernel_rfl)
 ·dsimp only[jL];refine aT _ (bz 131) λB w0=>?_;refine go ?_;intro b;refine go ?_;refine aB (aeX hs) (next:=λ_ _=>?_);refine go ?_;exact aj () (hv:=rfl) (hp:=trivial)
 ·refine aT _ (bz 131) λB w0=>?_;refine go ?_;intro b;refine go ?_;refine gG (λh2=>?_) (λh2=>?_)
  ·exact absurd h2 (by simp)
  refine go ?_;refine gG (λh3=>?_) (λh3=>?_)
  ·exact absurd h0 h3
  refine go ?_;refine aj () (hv:=?_) (hp:=trivial);show Value.bool (decide (n<=1099511627776))=Value.bool true;rw[eP (by omega)]
theorem ae0{t:Tok}(h:rX t):t.s.data.size<=64:=by
 rcases h with⟨s,hs,rfl⟩|⟨s,hs,rfl⟩|⟨n,h0,h1,rfl⟩
 ·simp only[mZ,bD,zu,or_false]at hs;rcases hs with rfl|rfl|rfl|rfl|rfl|rfl|rfl|rfl<;>decide
 ·simp only[tV,lG,fE,dI,bD,zu,or_false]at hs;rcases hs with rfl|rfl|rfl|rfl|rfl|rfl|rfl|rfl|rfl|rfl<;>decide
 ·exact(by decide:(0:Nat)<=64)
theorem UC:∀{l:List ByteArray},(∀s∈l,s.data.size<=64)->Lib.lens (l.map (·.data.toList))<=l.length*64
 |[],_=>aG _
 |s::l,h=>by
  have h1:=UC (l:=l) λx hx=>h x (dw _ hx);have h2:=h s (aR ..);have h3:Lib.lens ((s::l).map (·.data.toList))=s.data.size+Lib.lens (l.map (·.data.toList)):=by simp[Lib.lens]
  rw[h3,oN];omega
theorem ae1{l:List ByteArray}(hl:l.length<=2048)(h:∀s∈l,s.data.size<=64):(tH l ⟨⟨[32]⟩⟩).data.size<=140737488355328:=by
 unfold tH;cases l with
 |nil=>decide
 |cons s l=>
  have h1:=UC h;have h2:=Lib.join_length s.data.toList (l.map (·.data.toList)) [32];rw[lK]at h1⊢;simp only[List.size_toArray];rw[h2];simp only[oN,bI,rZ]at hl h1⊢;omega
theorem ae2(n:Nat):zeros [.string ⟨⟨[]⟩⟩] n=(List.replicate n (⟨⟨[]⟩⟩:ByteArray)).map .string:=by
 induction n with
 |zero=>rfl
 |succ n ih=>rw[BK,lK,<- ih];rfl
theorem ae3{n:Int}(h0: -9223372036854775808<=n)(h1:n<=9223372036854775807):aX Tryz.prog (.func 132) [.int .i64 n] [] [] [l6 0 mU] (λ_:Unit=>.string ⟨(Lib.itoa n).toArray⟩) (λ_=>[]) (λ_=>[]) (λ_=>True):=by
 obtain⟨fn,body,f1,f2,f3⟩:=MX (k:=132) (by kernel_rfl);exact adh aep f1 f2 f3 DU (by rw[globals];decide) Il h0 h1
theorem ae4{v:Value}{xs:List ByteArray}(hne:0<xs.length)(hl:xs.length<=2048)(h:∀s∈xs,s.data.size<=64):aX Tryz.prog (.func 133) [v,.string ⟨⟨[32]⟩⟩] [] [] [ae fG v xs] (λ_:Unit=>.string (tH xs ⟨⟨[32]⟩⟩)) (λ_=>[]) (λ_=>[]) (λ_=>True):=by
 obtain⟨fn,body,f1,f2,f3⟩:=MX (k:=133) (by kernel_rfl);exact adj joins f1 f2 f3 hne (by omega) (ae1 hl h)
theorem ae5{va:Value}{ts:List Tok}(h:mi ts)(hl:ts.length<=2048):aX Tryz.prog (.func 110) [va] [] [] [l6 0 mU,ae dQ va ts] (λs:ByteArray=>.tuple ⟨[.string s,.int .i64 0]⟩) (λ_=>[]) (λ_=>[]) (λ_=>True):=by
 refine aT UB aeU λB w0=>?_;refine go ?_;refine AL ts.length ⟨by omega,by omega,by omega⟩ (λb=>?_);rw[ae2];refine go ?_;refine bR (λy:Nat×List ByteArray=>ts.length - y.1) (λy=>[(12,.int .i64 (y.1:Int))]) (λy=>[pt b (.cells (y.2.map .string))]) (λ_=>[]) (λy=>y.1<=ts.length/\y.2.length=ts.length/\∀s∈y.2,s.data.size<=64) (0,List.replicate ts.length ⟨⟨[]⟩⟩) ⟨cu _,nP,λs hs=>by rw[Ju hs];decide⟩ (body:=?_);rintro⟨k,ss⟩ ⟨hk,hsl,hsz⟩;dsimp only at hk hsl hsz⊢;have hset:∀{s:ByteArray},s.data.size<=64->∀x∈ss.set k s,x.data.size<=64:=λhs x hx=>by
  rcases List.mem_or_eq_of_mem_set hx with hx|hx
  ·exact hsz x hx
  ·rw[hx];exact hs
 refine go ?_;refine aC rfl (λh1=>?_) (λh1=>?_)
 ·refine go ?_;refine cZ dQ (k:=k) (next:=λbt ot t _ ht=>?_);have hok:=h.ok t (dA ht);refine go ?_;intro b6;refine go ?_;refine aB (aeZ hok) (next:=λ_ _=>?_);refine go ?_;refine aC rfl (λh2=>?_) (λh2=>?_)
  ·have hn:0<=t.n/\t.n<=1048576:=by
    rcases hok with⟨s,_,rfl⟩|⟨s,_,rfl⟩|⟨n,g0,g1,rfl⟩
    ·exact⟨EN _,(by decide:(0:Int)<=1048576)⟩
    ·exact⟨EN _,(by decide:(0:Int)<=1048576)⟩
    ·exact⟨g0,g1⟩
   refine go ?_;refine aB (ae3 (n:=t.n) (by omega) (by omega)) (next:=λ_ _=>?_);refine go ?_;refine jk (cs:=ss.map .string) (cs':=(ss.set k ⟨(Lib.itoa t.n).toArray⟩).map .string) (o:=0+k*1) (v:=.string ⟨(Lib.itoa t.n).toArray⟩) (by rw[bG,fV,lS]) (by rw[bI];omega) ?_;refine go ?_;exact aL (k+1,ss.set k ⟨(Lib.itoa t.n).toArray⟩) (by show ts.length - (k+1)<ts.length - k;omega) ⟨by show k+1<=_;omega,by rw[EO];exact hsl,hset (by have:=Lib.itoa_length_le t.n (by omega) (by omega);simp only[List.size_toArray];omega)⟩
  ·refine go ?_;refine jk (cs:=ss.map .string) (cs':=(ss.set k t.s).map .string) (o:=0+k*1) (v:=.string t.s) (by rw[bG,fV,lS]) (by rw[bI];omega) ?_;refine go ?_;exact aL (k+1,ss.set k t.s) (by show ts.length - (k+1)<ts.length - k;omega) ⟨by show k+1<=_;omega,by rw[EO];exact hsl,hset (ae0 hok)⟩
 have hpos:=h.pos;refine go ?_;refine bP (fQ (b:=b) (cs:=ss.map .string)) (h:=?_);refine bJ (ae fG (.slice (some ⟨b,0,some 0⟩) ts.length ts.length) ss) (λw hw=>Iz hsl.symm (hw _ (aR ..)) (by omega)) ?_;refine aB (ae4 (xs:=ss) (by omega) (by omega) hsz) (next:=λ_ _=>?_);refine go ?_;exact aj (tH ss ⟨⟨[32]⟩⟩) (hv:=rfl) (hp:=trivial)
theorem ae6{vp:Value}{ws:List fu}:aX Tryz.prog (.func 81) [vp] [] [] [l6 0 mU,ae fP vp ws] (λy:ByteArray×Int=>.tuple ⟨[.string y.1,.int .i64 y.2]⟩) (λ_=>[]) (λ_=>[]) (λy=>(fI ws->y.2=0)/\(¬fI ws->y.2=520)):=by
 refine aT _ (bz 81) λB w0=>?_;refine go ?_;refine aC rfl (λh1=>?_) (λh1=>?_)
 ·refine go ?_;exact aj (⟨⟨[]⟩⟩,520) (hv:=rfl) (hp:=⟨λh=>by have:=h.len;omega,λ_=>rfl⟩)
 refine go ?_;refine aB (aeS (ws:=ws) (by omega)) (next:=λy hy=>?_);obtain⟨v,ok,ts⟩:=y;obtain⟨hy1,hy2⟩:=hy;dsimp only at hy1 hy2⊢;refine go ?_;refine iW rfl (λh2=>?_) (λh2=>?_)
 ·refine go ?_;exact aj (⟨⟨[]⟩⟩,520) (hv:=rfl) (hp:=⟨(λh=>by rw[hy1.2 h]at h2;cases h2),λ_=>rfl⟩)
 have h2:ok=true:=by cases ok<;>simp_all
 have hz:=hy2 h2;refine bJ (ae dh v [(ts,false)]) (λw hw=>hw _ (aR ..) h2) ?_;refine go ?_;refine cZ dh (k:=0) (xs:=[(ts,false)]) (v:=v) (h1:=by simp) (next:=λb o p (y:Value) hp=>?_);cases hp;refine go ?_;refine aB (ae5 hz.1 hz.2) (next:=λs _=>?_);refine go ?_;exact aj (s,0) (hv:=rfl) (hp:=⟨λ_=>rfl,λh=>absurd (hy1.1 h2) h⟩)
theorem UD{vp:Value}{ws:List fu}:aX Tryz.prog (.func 63) [vp] [] [] [l6 0 mU,ae fP vp ws] (λy:Int=>.int .i64 y) (λ_=>[]) (λ_=>[]) (λy=>(fI ws->y=0)/\(¬fI ws->y=520)):=by
 refine aT _ (bz 63) λB w0=>?_;refine go ?_;refine aB (ae6 (ws:=ws)) (next:=λy hy=>?_);refine go ?_;exact aj y.2 (hv:=rfl) (hp:=hy)
