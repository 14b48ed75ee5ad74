/-
  The law PuzzlesProblemSpec on the ideal machine.
-/
import Derived.Test.YtoohgkkmdnbnfaaGreatDoorLibYF
import Derived.Test.YtoohgkkmdnbnfaaGreatDoorSaneEF
set_option linter.all false
set_option maxRecDepth 10000
set_option maxHeartbeats 4000000
namespace Go.Proofs.YtoohgkkmdnbnfaaGreatDoor
open Go.Ideal Kd Canon Gph
theorem IY.same{k:bT}{p:List Clue}{x y:IX}(h1:IY k p x)(h2:IY k p y):x.e=y.e/\x.ok=y.ok:=by
 have he:x.e=y.e:=by
  by_cases a:fV k
  ·by_cases b:kQ k p
   ·by_cases c:(jH k p).length<=4096
    ·rw[h1.ok a b c,h2.ok a b c]
    ·rw[h1.nl a b (by omega),h2.nl a b (by omega)]
   ·rw[h1.np a b,h2.np a b]
  ·rw[h1.nk a,h2.nk a]
 exact⟨he,wK.2 (h1.eq.trans (by rw[he];exact h2.eq.symm))⟩
theorem U8{k:bT}{p:List Clue}{c:kM}:c∈jH k p↔∃(i:Nat) (r:aS),k.decl.rules[i]? =some r/\c∈oH k p r i:=by
 unfold jH;rw[List.mem_flatMap];constructor
 ·rintro⟨⟨r,i⟩,h1,h2⟩;exact⟨i,r,yI.1 h1,h2⟩
 ·rintro⟨i,r,h1,h2⟩;exact⟨(r,i),yI.2 h1,h2⟩
theorem ahB{k:bT}{p:List Clue}(hK:fV k)(hQ:kQ k p):∀c∈jH k p,ahc c:=λc hc=>by
 obtain⟨i,r,hr,hm⟩:=U8.1 hc;have hf:=hK.rf (bI hr);obtain⟨ls,hls,hin,_⟩:=hf.list hK;unfold oH xW at hm;rw[uu hls]at hm;obtain⟨y,hy,rfl⟩:=eG.1 hm;have hy:=(rU.1 hy).1;have h1:=(hin _ (bI (Ie.1 hy).1)).1.1;have hv:=hf.vals hQ hy;have hc:(iR r i y).cells=y.2.1:=by unfold iR jG;dsimp only;(repeat' split)<;>rfl
 have hr:(iR r i y).runs=y.2.2\/(iR r i y).runs=[]:=by unfold iR jG;dsimp only;(repeat' split)<;>first|exact .inl rfl|exact .inr rfl
 refine⟨by rw[hc];omega,?_⟩;rcases hr with e|e<;>rw[e]
 ·rcases hv with a|⟨_,_,_,_,a|a|a⟩
  ·rw[a.2];simp
  ·omega
  ·omega
  ·omega
 ·simp
