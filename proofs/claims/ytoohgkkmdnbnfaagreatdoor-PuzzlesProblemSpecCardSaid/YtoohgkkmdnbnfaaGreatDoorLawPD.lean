/-
  The law PuzzlesProblemSpec on the ideal machine.
-/
import Derived.Test.YtoohgkkmdnbnfaaGreatDoorLibYD
import Derived.Test.YtoohgkkmdnbnfaaGreatDoorSaneED
set_option linter.all false
set_option maxRecDepth 10000
set_option maxHeartbeats 4000000
namespace Go.Proofs.YtoohgkkmdnbnfaaGreatDoor
open Go.Ideal Kd Canon Gph
theorem EY.same{k:bS}{p:List Clue}{x y:Ji}(h1:EY k p x)(h2:EY k p y):x.e=y.e/\x.ok=y.ok:=by
 have he:x.e=y.e:=by
  by_cases a:fC k
  ·by_cases b:jR k p
   ·by_cases c:(mO k p).length<=4096
    ·rw[h1.ok a b c,h2.ok a b c]
    ·rw[h1.nl a b (by omega),h2.nl a b (by omega)]
   ·rw[h1.np a b,h2.np a b]
  ·rw[h1.nk a,h2.nk a]
 exact⟨he,wS.2 (h1.eq.trans (by rw[he];exact h2.eq.symm))⟩
theorem NW{α:Type}(E:Enc α)(w:Wd):(ah E (.slice none 0 0) []).p w:=.inl ⟨rfl,none,0,rfl,trivial⟩
theorem ah5{k:bS}{p:List Clue}{c:jl}:c∈mO k p↔∃(i:Nat) (r:aQ),k.decl.rules[i]? =some r/\c∈uI k p r i:=by
 unfold mO;rw[List.mem_flatMap];constructor
 ·rintro⟨⟨r,i⟩,h1,h2⟩;exact⟨i,r,yR.1 h1,h2⟩
 ·rintro⟨i,r,h1,h2⟩;exact⟨(r,i),yR.2 h1,h2⟩
theorem ah6{k:bS}{p:List Clue}(hK:fC k)(hQ:jR k p):∀c∈mO k p,Jk c:=λc hc=>by
 obtain⟨i,r,hr,hm⟩:=ah5.1 hc;have hf:=hK.rf (bH hr);obtain⟨ls,hls,hin,_⟩:=hf.list hK;unfold uI BM at hm;rw[uC hls]at hm;obtain⟨y,hy,rfl⟩:=fE.1 hm;have hy:=(uf.1 hy).1;have h1:=(hin _ (bH (Er.1 hy).1)).1.1;have hv:=hf.vals hQ hy;have hc:(gV r i y).cells=y.2.1:=by unfold gV gy;dsimp only;(repeat' split)<;>rfl
 have hr:(gV r i y).runs=y.2.2\/(gV r i y).runs=[]:=by unfold gV gy;dsimp only;(repeat' split)<;>first|exact .inl rfl|exact .inr rfl
 refine⟨by rw[hc];omega,?_⟩;rcases hr with e|e<;>rw[e]
 ·rcases hv with a|⟨_,_,_,_,a|a|a⟩
  ·rw[a.2];simp
  ·omega
  ·omega
  ·omega
 ·simp
theorem ah7{k:bS}{p:List Clue}{vh vs vr vc vu gh gc vn vl vp:Value}(hB:Cg k)(hP:yF p):
 cK Tryz.prog 5 [.agg ⟨kD k vh vs vr vc vu gh gc vn vl⟩,.agg ⟨[vp]⟩] (H7 6::ah iV vp p::kX k vh vs vr vc vu gh gc vn vl []) (.bool true):=by
 refine aI _ (aO 5) λB w0=>?_;dsimp only[kX];refine go ?_;intro b2 b3;refine go ?_;refine ax aep (next:=λ_ _=>?_);refine go ?_;refine ax (afC (k:=k) (p:=p) (vh:=vh) (vs:=vs) (vr:=vr) (vc:=vc) (vu:=vu) (gh:=gh) (gc:=gc) (vn:=vn) (vl:=vl) (vp:=vp) hB hP.len) (next:=λb hb=>?_);cases b with
 |false=>
  refine go ?_;exact ae () (hv:=rfl) (hp:=trivial)
 |true=>
 obtain⟨hfk,_,hpl,hpv⟩:=hb rfl;clear hb;have hS:=nu.ofE hB hfk;refine go ?_;refine ax (ahl (k:=k) (p:=p) (vh:=vh) (vs:=vs) (vr:=vr) (vc:=vc) (vu:=vu) (gh:=gh) (gc:=gc) (vn:=vn) (vl:=vl) (vp:=vp) hS hP) (next:=λy1 hy1=>?_);obtain⟨ok,e,wv,wc⟩:=y1;cases ok with
 |false=>
  dsimp only[cond,Cq,Co,List.nil_append];refine go ?_;intro b7;refine go ?_;refine ax (Vv (k:=k) (p:=p) (vh:=vh) (vs:=vs) (vr:=vr) (vc:=vc) (vu:=vu) (gh:=gh) (gc:=gc) (vn:=vn) (vl:=vl) (vp:=vp) hS hP) (next:=λy2 hy2=>?_);obtain⟨ok2,e2,wv2,Vz⟩:=y2;obtain⟨he,ho⟩:=hy1.same hy2;dsimp only at he ho;subst he ho;dsimp only[cond,Cq,Co,List.nil_append];refine go ?_;intro b8;refine go ?_;refine ET (ah aa (.slice none 0 0) []) (NW _) ?_;refine ET (ah (aj aa) (.slice none 0 0) []) (NW _) ?_;refine ET (ah jL (.slice none 0 0) []) (NW _) ?_;refine ax (Vn (q:=⟨0,0,[],[],[]⟩) (vv:=.slice none 0 0) (vn:=.slice none 0 0) (vc:=.slice none 0 0) (wv:=.slice none 0 0) (wn:=.slice none 0 0) (wc:=.slice none 0 0) (by simp) (by simp) (by simp) (by simp) (by simp)) (next:=λ_ _=>?_);refine go ?_;refine ae () (hv:=?_) (hp:=trivial);rw[dS rfl];rfl
 |true=>
  have he:e=0:=hy1.eq.1 rfl;subst he;have hK:fC k:=Classical.byContradiction λh=>by have:=hy1.nk h;cases this
  have hQ:jR k p:=Classical.byContradiction λh=>by have:=hy1.np hK h;cases this
  have hL:(mO k p).length<=4096:=Classical.byContradiction λh=>by have:=hy1.nl hK hQ (by omega);cases this
  have hsl:=hK.typ.lim.s1;have hnb:=hS.bq;dsimp only[cond,Cq,Co,List.cons_append,List.nil_append];refine go ?_;intro b7;refine go ?_;refine ax (Vv (k:=k) (p:=p) (vh:=vh) (vs:=vs) (vr:=vr) (vc:=vc) (vu:=vu) (gh:=gh) (gc:=gc) (vn:=vn) (vl:=vl) (vp:=vp) hS hP) (next:=λy2 hy2=>?_);obtain⟨ok2,e2,wv2,Vz⟩:=y2;obtain⟨he,ho⟩:=hy1.same hy2;dsimp only at he ho;subst he ho;dsimp only[cond,Cq,Co,List.cons_append,List.nil_append];refine go ?_;intro b8;refine go ?_;refine ax (Vn (q:=⟨(k.grid.cells.length:Int),(k.decl.symbols.length:Int),uR k,k.bq,mO k p⟩) (vv:=wv) (vn:=vn) (vc:=wc) (wv:=wv2) (wn:=vn) (wc:=Vz) (by show(uR k).length<=_;unfold uR;rw[cz];omega) hnb.1 hnb.2 (by show(mO k p).length<_;omega) (ah6 hK hQ)) (next:=λ_ _=>?_);refine go ?_;exact ae () (hv:=rfl) (hp:=trivial)
