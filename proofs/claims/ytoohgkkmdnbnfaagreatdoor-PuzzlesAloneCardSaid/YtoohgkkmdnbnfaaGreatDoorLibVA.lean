/-
  Puzzles without one of their clues, by both ways; puzzles compared.
-/
import Derived.Test.YtoohgkkmdnbnfaaGreatDoorLibUA
set_option linter.all false
set_option maxRecDepth 10000
set_option maxHeartbeats 4000000
namespace Go.Proofs.YtoohgkkmdnbnfaaGreatDoor
open Go.Ideal Kd Canon
def CJ(p:List Clue)(n e:Int):List Clue:=if e=0 then agq p n else[]
structure WoP(p:List Clue)(n e:Int):Prop where
 eq:e=if 0<=n/\n<p.length then 0 else 1
theorem VB(w:Wd){p:List Clue}{n:Int}:(ah eF (.slice none 0 0) (CJ p n 1)).p w:=.inl ⟨rfl,none,0,rfl,trivial⟩
theorem ahQ{p:List Clue}{vp:Value}{at_:Int}(hl:p.length<=4096):bi Tryz.prog (.func 13) [.agg ⟨[vp]⟩,.int .i64 at_] [] [] [ah eF vp p] (λy:WoY=>.tuple ⟨[.agg ⟨[y.v]⟩,.int .i64 y.e]⟩) (λ_=>[])
 (λy=>[ah eF y.v (CJ p at_ y.e)]) (λy=>WoP p at_ y.e):=by
 refine aK Ve agl λB w0=>?_;refine aS (E:=eF) (v:=vp) (xs:=p) (by simp) λNK cp ep=>?_;subst ep;refine go ?_;intro b2 b4;refine go ?_;first|with_reducible refine aN (λh1=>?_) (λh1=>?_)|with_reducible refine aM (λh1=>?_) (λh1=>?_)|with_reducible refine aL (λh1=>?_) (λh1=>?_)
 rotate_left
 ·refine go ?_;refine eX (ah eF (.slice none 0 0) (CJ p at_ 1)) (λw _=>VB w) ?_;exact ae ⟨.slice none 0 0,1⟩ (hv:=rfl) (hp:=⟨(if_neg (by omega)).symm⟩)
 refine go ?_;refine aA rfl (λh2=>?_) (λh2=>?_)
 ·refine go ?_;refine eX (ah eF (.slice none 0 0) (CJ p at_ 1)) (λw _=>VB w) ?_;exact ae ⟨.slice none 0 0,1⟩ (hv:=rfl) (hp:=⟨(if_neg (by omega)).symm⟩)
 obtain⟨n,rfl⟩:=sG (show 0<=at_ by omega);refine go ?_;refine Rm eF (xs:=p) n (by omega) (next:=λa1 m1=>?_);refine go ?_;refine Rn eF (xs:=p) (n+1) (by omega) (next:=λa2 m2=>?_) (hlo:=rfl);refine go ?_;intro CG;refine bD (eO (b:=CG)) (h:=?_);refine go ?_;have htl:(p.take n).length=n:=by rw[gM];omega
 have hdl:(p.drop (n+1)).length=p.length - (n+1):=mK;refine ax (agp (b:=CG) (kI:=p.take n) (kv:=p.drop (n+1)) (by omega)) (next:=λv _=>?_);refine aS (E:=eF) (v:=v) (xs:=p.take n++p.drop (n+1)) (by simp) λav cv Ar=>?_;subst Ar;refine go ?_;refine eX (ah eF (.slice av (p.take n++p.drop (n+1)).length cv) (CJ p (n:Int) 0)) (λw hw=>hw (ah eF (.slice av (p.take n++p.drop (n+1)).length cv) (p.take n++p.drop (n+1))) (by simp)) ?_;exact ae ⟨.slice av (p.take n++p.drop (n+1)).length cv,0⟩ (hv:=rfl) (hp:=⟨(if_pos (by omega)).symm⟩)
