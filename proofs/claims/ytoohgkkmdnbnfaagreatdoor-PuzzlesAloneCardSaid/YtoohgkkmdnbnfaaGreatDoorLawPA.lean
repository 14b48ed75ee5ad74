/-
  The law PuzzlesProblemSpec on the ideal machine.
-/
import Derived.Test.YtoohgkkmdnbnfaaGreatDoorLibYA
import Derived.Test.YtoohgkkmdnbnfaaGreatDoorSaneEA
set_option linter.all false
set_option maxRecDepth 10000
set_option maxHeartbeats 4000000
namespace Go.Proofs.YtoohgkkmdnbnfaaGreatDoor
open Go.Ideal Kd Canon Gph
theorem F9.same{k:bS}{p:List Clue}{x y:F8}(h1:F9 k p x)(h2:F9 k p y):x.e=y.e/\x.ok=y.ok:=by
 have he:x.e=y.e:=by
  by_cases a:fT k
  ·by_cases b:iK k p
   ·by_cases c:(jg k p).length<=4096
    ·rw[h1.ok a b c,h2.ok a b c]
    ·rw[h1.nl a b (by omega),h2.nl a b (by omega)]
   ·rw[h1.np a b,h2.np a b]
  ·rw[h1.nk a,h2.nk a]
 exact⟨he,wX.2 (h1.eq.trans (by rw[he];exact h2.eq.symm))⟩
theorem aiC{α:Type}(E:Enc α)(w:Wd):(ah E (.slice none 0 0) []).p w:=.inl ⟨rfl,none,0,rfl,trivial⟩
theorem aiD{k:bS}{p:List Clue}{c:iG}:c∈jg k p↔∃(i:Nat) (r:aU),k.decl.rules[i]? =some r/\c∈kW k p r i:=by
 unfold jg;rw[List.mem_flatMap];constructor
 ·rintro⟨⟨r,i⟩,h1,h2⟩;exact⟨i,r,xm.1 h1,h2⟩
 ·rintro⟨i,r,h1,h2⟩;exact⟨(r,i),xm.2 h1,h2⟩
theorem aiE{k:bS}{p:List Clue}(hK:fT k)(hQ:iK k p):∀c∈jg k p,Ga c:=λc hc=>by
 obtain⟨i,r,hr,hm⟩:=aiD.1 hc;have hf:=hK.rf (bG hr);obtain⟨ls,hls,hin,_⟩:=hf.list hK;unfold kW uN at hm;rw[uI hls]at hm;obtain⟨y,hy,rfl⟩:=fo.1 hm;have hy:=(um.1 hy).1;have h1:=(hin _ (bG (TF.1 hy).1)).1.1;have hv:=hf.vals hQ hy;have hc:(jf r i y).cells=y.2.1:=by unfold jf ko;dsimp only;(repeat' split)<;>rfl
 have hr:(jf r i y).runs=y.2.2\/(jf r i y).runs=[]:=by unfold jf ko;dsimp only;(repeat' split)<;>first|exact .inl rfl|exact .inr rfl
 refine⟨by rw[hc];omega,?_⟩;rcases hr with e|e<;>rw[e]
 ·rcases hv with a|⟨_,_,_,_,a|a|a⟩
  ·rw[a.2];simp
  ·omega
  ·omega
  ·omega
 ·simp
