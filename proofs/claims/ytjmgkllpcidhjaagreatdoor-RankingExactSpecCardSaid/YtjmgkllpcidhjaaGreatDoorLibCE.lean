/-
  The text of tokens; points.Check.
-/
import Derived.Test.YtjmgkllpcidhjaaGreatDoorLibBE
import Derived.Test.YtjmgkllpcidhjaaGreatDoorSaneAE
import Derived.Lib.ItoaLen
set_option linter.all false
set_option maxRecDepth 10000
set_option maxHeartbeats 4000000
namespace Go.Proofs.YtjmgkllpcidhjaaGreatDoor
open Go.Ideal Rk
noncomputable def Lf:dS:=⟨39,[(.tmp 2),(.tmp 3)],(.seq (kO [⟨⟨(some 2),none,(.aN (.const vE))⟩,[]⟩,kS 3 (.aN (kI 0))]) (.seq (kO [kM 7 0,kS 8 (.gp 7),⟨⟨(some 9),none,(.qx 9 1 16 [vE] 8 8)⟩,[]⟩,kS 4 (.aN 9)]) (.seq (.seq (kO [kM 10 0,kS 11 (.gp 10),kS 12 (.mv (kI 0))]) (.block 0 (.loop (.seq (kO [kS 13 (.bin .lss 3 12 11)]) (.seq (.cond 13 .skip (.exit 0)) (.seq (.block 1 (.seq (kO [kM 14 12,kS 15 (.dM 4 10 12),kS 16 (.jF 4 15),⟨⟨(some 6),none,(.new [vI,vE,vI,vI] 135)⟩,[]⟩,kS 5 (.aN 14),kN (.store 4 6 16)]) (.block 2 (.seq (kO [kS 23 (.jF 4 6),kS 24 (kC 111 [23]),kS 25 (.un .not 24),kS 22 (.aN 25)]) (.cond 22 (.seq (kO [⟨⟨(some 2),none,(.aN (.const vE))⟩,[]⟩,kS 3 (.aN (kI 100))]) .ret) (.seq (kO [kS 27 (.bH 0 6),kS 28 (.aB 27),kS 29 (.bin .eql 3 28 (kI 2)),kS 26 (.aN 29)]) (.cond 26 (kO [kM 30 4,kM 31 5,kS 32 (.bH 2 6),kS 33 (.aB 32),kS 34 (kC 112 [33]),kS 35 (.dM 1 30 31),kN (.store 1 35 34)]) (kO [kM 17 4,kM 18 5,kS 19 (.bH 1 6),kS 20 (.aB 19),kS 21 (.dM 1 17 18),kN (.store 1 21 20)])))))))) (kO [kS 36 (.bin .add 3 12 (kI 1)),kM 12 36]))))))) (.seq (kO [kM 37 4,⟨⟨(some 38),none,(kC 113 [37,(.const (.string ⟨⟨[32]⟩⟩))])⟩,[]⟩,kS 2 (.aN 38),kS 3 (.aN (kI 0))]) .ret))))⟩
theorem U0:iN Tryz.prog 82=some Lf:=by kernel_rfl
theorem U3{ρ:Operand->Value}{x:Operand}{s:ByteArray}(hx:ρ x=.string s):Pu Tryz.prog ρ (.BN x) (.int .i64 (s.size:Int)):=λh=>by simp only[ae.run,hx,DD]
theorem U4{ρ:Operand->Value}{x i:Operand}{s:ByteArray}{k:Nat}{kk:IntKind}{c:UInt8}(hx:ρ x=.string s)(hi:ρ i=.int kk (.ofNat k))(hc:eX s.data.toList k=some c):Pu Tryz.prog ρ (.BK x i) (.int .u8 c.toNat):=λh=>by simp only[ae.run,hx,hi,hc]
theorem U5{s:ByteArray}(hs:s∈ng):fG Tryz.prog 125 [.string s] [] (.bool true):=by
 simp only[ng,iJ,ul,iL,bz,rY,or_false]at hs;rcases hs with rfl|rfl|rfl|rfl|rfl|rfl|rfl|rfl|rfl|rfl<;>exact rz λh K=>by kernel_rfl
theorem U6{c:UInt8}(hc:fG Tryz.prog 126 [.int .u8 c.toNat] [] (.int .i64 4)):fG Tryz.prog 111 [.agg ⟨[.int .i64 3,.string ⟨⟨[c]⟩⟩,.int .i64 0,.int .i64 0]⟩] [] (.bool true):=by
 refine bq _ (bP 111) λB w0=>?_;refine go ?_;intro b;refine go ?_;refine(bY rfl rfl (U3 rfl)).h ?_;refine go ?_;refine(bY rfl rfl (U4 (c:=c) rfl rfl rfl)).h ?_;refine go ?_;refine aF hc (next:=λ_ _=>?_);refine go ?_;exact av () (hv:=rfl) (hp:=trivial)
theorem U7{t:Tok}(h:mi t):fG Tryz.prog 111 [.agg ⟨[.int .i64 t.k,.string t.s,.int .i64 t.n,.int .i64 t.at_]⟩] [] (.bool true):=by
 rcases h with⟨s,hs,rfl⟩|⟨s,hs,rfl⟩|⟨n,h0,h1,rfl⟩
 ·simp only[jB,bz,rY,or_false]at hs;rcases hs with rfl|rfl|rfl|rfl|rfl|rfl|rfl|rfl<;>exact U6 (rz λh K=>by kernel_rfl)
 ·dsimp only[gK];refine bq _ (bP 111) λB w0=>?_;refine go ?_;intro b;refine go ?_;refine aF (U5 hs) (next:=λ_ _=>?_);refine go ?_;exact av () (hv:=rfl) (hp:=trivial)
 ·refine bq _ (bP 111) λB w0=>?_;refine go ?_;intro b;refine go ?_;refine gG (λh2=>?_) (λh2=>?_)
  ·exact absurd h2 (by simp)
  refine go ?_;refine gG (λh3=>?_) (λh3=>?_)
  ·exact absurd h0 h3
  refine go ?_;refine av () (hv:=?_) (hp:=trivial);show Value.bool (decide (n<=1099511627776))=Value.bool true;rw[gL (by omega)]
theorem U8{t:Tok}(h:mi t):t.s.data.size<=64:=by
 rcases h with⟨s,hs,rfl⟩|⟨s,hs,rfl⟩|⟨n,h0,h1,rfl⟩
 ·simp only[jB,bz,rY,or_false]at hs;rcases hs with rfl|rfl|rfl|rfl|rfl|rfl|rfl|rfl<;>decide
 ·simp only[ng,iJ,ul,iL,bz,rY,or_false]at hs;rcases hs with rfl|rfl|rfl|rfl|rfl|rfl|rfl|rfl|rfl|rfl<;>decide
 ·exact(by decide:(0:Nat)<=64)
theorem Lg:∀{l:List ByteArray},(∀s∈l,s.data.size<=64)->Lib.lens (l.map (·.data.toList))<=l.length*64
 |[],_=>az _
 |s::l,h=>by
  have h1:=Lg (l:=l) λx hx=>h x (bB _ hx);have h2:=h s (aT ..);have h3:Lib.lens ((s::l).map (·.data.toList))=s.data.size+Lib.lens (l.map (·.data.toList)):=by simp[Lib.lens]
  rw[h3,oG];omega
theorem U9{l:List ByteArray}(hl:l.length<=2048)(h:∀s∈l,s.data.size<=64):(kQ l ⟨⟨[32]⟩⟩).data.size<=140737488355328:=by
 unfold kQ;cases l with
 |nil=>decide
 |cons s l=>
  have h1:=Lg h;have h2:=Lib.join_length s.data.toList (l.map (·.data.toList)) [32];rw[oI]at h1⊢;simp only[List.size_toArray];rw[h2];simp only[oG,dw,qp]at hl h1⊢;omega
theorem Va(n:Nat):zeros [.string ⟨⟨[]⟩⟩] n=(List.replicate n (⟨⟨[]⟩⟩:ByteArray)).map .string:=by
 induction n with
 |zero=>rfl
 |succ n ih=>rw[BG,oI,<- ih];rfl
theorem Vb{n:Int}(h0: -9223372036854775808<=n)(h1:n<=9223372036854775807):bJ Tryz.prog (.func 112) [.int .i64 n] [] [] [mX 0 og] (λ_:Unit=>.string ⟨(Lib.itoa n).toArray⟩) (λ_=>[]) (λ_=>[]) (λ_=>True):=by
 obtain⟨fn,body,f1,f2,f3⟩:=A7 (k:=112) (by kernel_rfl);exact Tq Ua f1 f2 f3 Fq (by rw[globals];decide) Ko h0 h1
theorem Vd{v:Value}{xs:List ByteArray}(hne:0<xs.length)(hl:xs.length<=2048)(h:∀s∈xs,s.data.size<=64):bJ Tryz.prog (.func 113) [v,.string ⟨⟨[32]⟩⟩] [] [] [ah dA v xs] (λ_:Unit=>.string (kQ xs ⟨⟨[32]⟩⟩)) (λ_=>[]) (λ_=>[]) (λ_=>True):=by
 obtain⟨fn,body,f1,f2,f3⟩:=A7 (k:=113) (by kernel_rfl);exact Tt joins f1 f2 f3 hne (by omega) (U9 hl h)
theorem Ve{va:Value}{ts:List Tok}(h:iY ts)(hl:ts.length<=2048):bJ Tryz.prog (.func 82) [va] [] [] [mX 0 og,ah bQ va ts] (λs:ByteArray=>.tuple ⟨[.string s,.int .i64 0]⟩) (λ_=>[]) (λ_=>[]) (λ_=>True):=by
 refine bq Lf U0 λB w0=>?_;refine go ?_;refine EC ts.length ⟨by omega,by omega,by omega⟩ (λb=>?_);rw[Va];refine go ?_;refine dZ (λy:Nat×List ByteArray=>ts.length - y.1) (λy=>[(12,.int .i64 (y.1:Int))]) (λy=>[pt b (.cells (y.2.map .string))]) (λ_=>[]) (λy=>y.1<=ts.length/\y.2.length=ts.length/\∀s∈y.2,s.data.size<=64) (0,List.replicate ts.length ⟨⟨[]⟩⟩) ⟨dz _,qw,λs hs=>by rw[Ml hs];decide⟩ (body:=?_);rintro⟨k,ss⟩ ⟨hk,hsl,hsz⟩;dsimp only at hk hsl hsz⊢;have hset:∀{s:ByteArray},s.data.size<=64->∀x∈ss.set k s,x.data.size<=64:=λhs x hx=>by
  rcases List.mem_or_eq_of_mem_set hx with hx|hx
  ·exact hsz x hx
  ·rw[hx];exact hs
 refine go ?_;refine aJ rfl (λh1=>?_) (λh1=>?_)
 ·refine go ?_;refine dh bQ (k:=k) (next:=λbt ot t _ ht=>?_);have hok:=h.ok t (dG ht);refine go ?_;intro b6;refine go ?_;refine aF (U7 hok) (next:=λ_ _=>?_);refine go ?_;refine aJ rfl (λh2=>?_) (λh2=>?_)
  ·have hn:0<=t.n/\t.n<=1048576:=by
    rcases hok with⟨s,_,rfl⟩|⟨s,_,rfl⟩|⟨n,g0,g1,rfl⟩
    ·exact⟨Int.le_refl _,(by decide:(0:Int)<=1048576)⟩
    ·exact⟨Int.le_refl _,(by decide:(0:Int)<=1048576)⟩
    ·exact⟨g0,g1⟩
   refine go ?_;refine aF (Vb (n:=t.n) (by omega) (by omega)) (next:=λ_ _=>?_);refine go ?_;refine vG (cs:=ss.map .string) (cs':=(ss.set k ⟨(Lib.itoa t.n).toArray⟩).map .string) (o:=0+k*1) (v:=.string ⟨(Lib.itoa t.n).toArray⟩) (by rw[eU,ko,zg]) (by rw[dw];omega) ?_;refine go ?_;exact bC (k+1,ss.set k ⟨(Lib.itoa t.n).toArray⟩) (by show ts.length - (k+1)<ts.length - k;omega) ⟨by show k+1<=_;omega,by rw[List.length_set];exact hsl,hset (by have:=Lib.itoa_length_le t.n (by omega) (by omega);simp only[List.size_toArray];omega)⟩
  ·refine go ?_;refine vG (cs:=ss.map .string) (cs':=(ss.set k t.s).map .string) (o:=0+k*1) (v:=.string t.s) (by rw[eU,ko,zg]) (by rw[dw];omega) ?_;refine go ?_;exact bC (k+1,ss.set k t.s) (by show ts.length - (k+1)<ts.length - k;omega) ⟨by show k+1<=_;omega,by rw[List.length_set];exact hsl,hset (U8 hok)⟩
 have hpos:=h.pos;refine go ?_;refine dB (kL (b:=b) (cs:=ss.map .string)) (h:=?_);refine bM (ah dA (.slice (some ⟨b,0,some 0⟩) ts.length ts.length) ss) (λw hw=>Bi hsl.symm (hw _ (aT ..)) (by omega)) ?_;refine aF (Vd (xs:=ss) (by omega) (by omega) hsz) (next:=λ_ _=>?_);refine go ?_;exact av (kQ ss ⟨⟨[32]⟩⟩) (hv:=rfl) (hp:=trivial)
theorem Vf{vp:Value}{ws:List cO}:bJ Tryz.prog (.func 56) [vp] [] [] [mX 0 og,ah fV vp ws] (λy:ByteArray×Int=>.tuple ⟨[.string y.1,.int .i64 y.2]⟩) (λ_=>[]) (λ_=>[]) (λy=>(dD ws->y.2=0)/\(¬dD ws->y.2=520)):=by
 refine bq _ (bP 56) λB w0=>?_;refine go ?_;refine aJ rfl (λh1=>?_) (λh1=>?_)
 ·refine go ?_;exact av (⟨⟨[]⟩⟩,520) (hv:=rfl) (hp:=⟨λh=>by have:=h.len;omega,λ_=>rfl⟩)
 refine go ?_;refine aF (UY (ws:=ws) (by omega)) (next:=λy hy=>?_);obtain⟨v,ok,ts⟩:=y;obtain⟨hy1,hy2⟩:=hy;dsimp only at hy1 hy2⊢;refine go ?_;refine jr rfl (λh2=>?_) (λh2=>?_)
 ·refine go ?_;exact av (⟨⟨[]⟩⟩,520) (hv:=rfl) (hp:=⟨(λh=>by rw[hy1.2 h]at h2;cases h2),λ_=>rfl⟩)
 have h2:ok=true:=by cases ok<;>simp_all
 have hz:=hy2 h2;refine bM (ah aW v [(ts,false)]) (λw hw=>hw _ (aT ..) h2) ?_;refine go ?_;refine dh aW (k:=0) (xs:=[(ts,false)]) (v:=v) (h1:=by simp) (next:=λb o p (y:Value) hp=>?_);cases hp;refine go ?_;refine aF (Ve hz.1 hz.2) (next:=λs _=>?_);refine go ?_;exact av (s,0) (hv:=rfl) (hp:=⟨λ_=>rfl,λh=>absurd (hy1.1 h2) h⟩)
theorem Lh{vp:Value}{ws:List cO}:bJ Tryz.prog (.func 37) [vp] [] [] [mX 0 og,ah fV vp ws] (λy:Int=>.int .i64 y) (λ_=>[]) (λ_=>[]) (λy=>(dD ws->y=0)/\(¬dD ws->y=520)):=by
 refine bq _ (bP 37) λB w0=>?_;refine go ?_;refine aF (Vf (ws:=ws)) (next:=λy hy=>?_);refine go ?_;exact av y.2 (hv:=rfl) (hp:=hy)
