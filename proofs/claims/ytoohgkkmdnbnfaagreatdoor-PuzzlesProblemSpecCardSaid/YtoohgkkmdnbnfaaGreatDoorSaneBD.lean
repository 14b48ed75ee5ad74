/-
  The names of the forms, sorted, whatever the order in which the map gives them.
-/
import Derived.Test.YtoohgkkmdnbnfaaGreatDoorLibDD
import Derived.Test.YtoohgkkmdnbnfaaGreatDoorSaneAD
set_option linter.all false
namespace Go.Proofs.YtoohgkkmdnbnfaaGreatDoor
open Go.Ideal Kd
theorem ad6(a b:List UInt8):(decide (a<=b)||decide (b<=a))=true:=by
 rcases List.le_total a b with h|h<;>simp[h]
theorem ad7{zs ks rs:List ByteArray}(hp:zs.Perm ks)(hr:rs.Perm ks)(hs:(rs.map λz=>z.data.toList).Pairwise λa b=>decide (a<=b)=true):ng zs=rs:=by
 have h1:BH zs=rs.map λz=>z.data.toList:=by
  unfold BH;refine List.Perm.eq_of_pairwise (le:=λa b=>decide (a<=b)=true) (λa b _ _ h1 h2=>?_) (Oi (λa b c h1 h2=>?_) ad6 _) hs (((yQ _ _).trans (hp.map _)).trans (hr.map _).symm)
  ·exact List.le_antisymm (gX h1) (gX h2)
  ·exact dS (List.le_trans (gX h1) (gX h2))
 unfold ng;rw[h1,uW];exact(Fb λz _=>rfl).trans (List.map_id _)
def ni(l:List Nat):ByteArray:=⟨⟨l.map UInt8.ofNat⟩⟩
def tC:List ByteArray:=[ni [101,97,99,104],ni [117,110,108,105,107,101],ni [97,112,97,114,116],ni [110,111,116],ni [99,111,110,110,101,99,116,101,100],ni [108,111,111,112],ni [103,105,118,101,110],ni [102,105,108,108,101,100],ni [115,116,101,112,115]]
def uP:List ByteArray:=[ni [97,112,97,114,116],ni [99,111,110,110,101,99,116,101,100],ni [101,97,99,104],ni [102,105,108,108,101,100],ni [103,105,118,101,110],ni [108,111,111,112],ni [110,111,116],ni [115,116,101,112,115],ni [117,110,108,105,107,101]]
theorem ad8:uP.Perm tC:=by
 unfold uP tC;decide
theorem ad9:(uP.map λz=>z.data.toList).Pairwise λa b=>decide (a<=b)=true:=by
 unfold uP;decide
theorem aea:tC.Nodup:=by
 unfold tC;decide
theorem aeb{h:IH}{b m clock:Nat}{es:List MapEntry}(hb:h.get b=some (.cells [.map (some m)]))(hbn:b<h.next)(hmn:m<h.next)(hm:h.get m=some (.map es clock))(hkeys:es.map (·.key)=tC.map .string)(hborn:es.map (·.born)=List.range 9)(hc:8<clock):
 CALL Tryz.prog ⟨.func 252,[.func (.func 288) ⟨[]⟩ ⟨[ptr' b]⟩],[],none⟩ h (λr pm h2=>r=.ok (.slice (some ⟨h.next,0,some 1⟩) 9 9)/\pm=none/\h2=h.new (.cells (uP.map .string))):=by
 let d:Wd:=⟨⟨h.t,h.next,h.next⟩,λi=>i<h.next,λi hi=>hi⟩
 let ai:List (ByteArray×Value):=tC.zip (es.map (·.val))
 have hlen:es.length=9:=by have:=congrArg List.length hborn;simpa using this
 have hent:es.map (λe=>(e.key,e.val))=ai.map λp=>(fP p.1,p.2):=by
  have h1:es.map (λe=>(e.key,e.val))=(es.map (·.key)).zip (es.map (·.val)):=by rw[List.zip_map']
  rw[h1,hkeys];show(tC.map Value.string).zip (es.map (·.val))=(tC.zip (es.map (·.val))).map _;rw[List.zip_map_left];exact Fb λp _=>rfl
 have hk1:ai.map (·.1)=tC:=List.map_fst_zip (by rw[cz,hlen];exact bQ _);have hmap:xV fP ai es clock:=⟨hent,λe he=>by
  have:e.born∈es.map (·.born):=fE.2 ⟨e,he,rfl⟩;rw[hborn,tX]at this;omega,by rw[hborn];exact List.nodup_range,by rw[hk1];exact aea⟩
 have hF:∀f∈[eH b 0 [.map (some m)],rF fP m ai],f.p d:=by
  intro f hf;rcases dH.1 hf with rfl|hf
  ·exact⟨_,⟨hbn,.inl hb⟩,λj u hj=>by rw[fD];exact hj⟩
  ·rw[bI.1 hf];exact⟨hmn,es,clock,hm,hmap⟩
 have st:St [] d [] [eH b 0 [.map (some m)],rF fP m ai] d:=⟨⟨bQ _,λ_ _ _=>rfl,λ_ _=>rfl⟩,Wd.Le.refl d,λi hi hz=>.inl hz,⟨[],rfl,tZ,by simp⟩,hF⟩
 refine .cut (uP.map .string) 9 1 (by rfl) (by simp[uP]) (.inr rfl) _ (adW (adT (b:=b) (bm:=m) (ai:=ai)) (λxs hx=>by have:=hx.length_eq;rw[hk1]at this;rw[this];exact⟨by decide,by decide⟩) [] d st) rfl ?_ ⟨rfl,rfl,rfl⟩;rintro r pm h' ⟨rfl,w',y,rfl,s,rfl,hy⟩;have hlow:=s.agree.low (bQ _) (by simp);rw[hk1]at hy;have hsb:=ad7 hy ad8 ad9;obtain⟨S,⟨S1,S2,q1,q2,e⟩,h2,h3⟩:=s.own;have hl:y.xs.length=(ng y.xs).length:=(Ic _).symm;rw[hl]at q1;obtain⟨c,cells,e1,e2,e3,e4,e5⟩:=Sr q1 (by rw[hsb];decide);rw[hsb]at e1 e4 e5;subst e2;refine⟨rfl,hlow,c,0,9,?_,?_,(λh=>by cases h),?_⟩
 ·show iK.ok (gv aT.n y.c y.xs.length)=_;rw[hl,hsb,e1];rfl
 ·rcases(h3 c (by rw[e];simp)).1 with q|q
  ·exact q
  ·cases q
 ·have hcells:cells=uP.map .string:=by
   apply kE;intro j;by_cases hj:j<uP.length
   ·obtain⟨_,u1,_⟩:=e5 j _ (cO hj);have:=u1 0 _ rfl;rw[fA,cO hj];simpa[aT]using this
   ·rw[iH (by rw[e4];simpa[aT]using hj),iH (by rw[cz];omega)]
  unfold IH.nW;simp only[e3,hcells,nX,oC,yP];rw[if_pos (by simp),bK]
noncomputable def IR(es:List MapEntry)(clock:Nat):Bool:=mE 5 (.agg ⟨tC.map .string⟩) (.agg ⟨jV (λe=>e.key) es⟩)&&(mE 5 (.agg ⟨(List.range 9).map λi=>.int .i64 (.ofNat i)⟩) (.agg ⟨jV (λe=>.int .i64 (.ofNat e.born)) es⟩)&&Nat.blt 8 clock)
noncomputable def M8:dP->IH->Option (Value×IH):=λq h=>
 match q with
 |⟨.func f,[.func (.func g) ⟨[]⟩ ⟨[.pointer (some ⟨b,o,none⟩)]⟩],[],none⟩=>cond (Nat.beq f 252&&(Nat.beq g 288&&(Nat.beq o 0&&Nat.blt b h.next))) (match h.get b with
  |some (.cells [.map (some m)])=>cond (Nat.blt m h.next) (match h.get m with
   |some (.map es clock)=>cond (IR es clock) (some (.slice (some ⟨h.next,0,some 1⟩) 9 9,h.new (.cells (uP.map .string)))) none
   |_=>none) none
  |_=>none) none
 |_=>none
theorem aec{es:List MapEntry}{clock:Nat}(h:IR es clock=true):es.map (·.key)=tC.map .string/\es.map (·.born)=List.range 9/\8<clock:=by
 unfold IR at h;simp only[gJ]at h;obtain⟨h1,h2,h3⟩:=h;have e1:=uq _ _ _ h1;have e2:=uq _ _ _ h2;injection e1 with e1;injection e1 with e1;injection e2 with e2;injection e2 with e2;rw[qX]at e1 e2;refine⟨e1.symm,?_,jT h3⟩;have:=congrArg (List.map λv:Value=>match v with| .int _ n=>n.toNat|_=>0) e2;rw[uW,uW]at this;have h4:(List.range 9).map (λi:Nat=>i)=es.map (·.born):=this;rw[<- h4,List.map_id']
theorem aed{q:dP}{h:IH}{v:Value}{h':IH}(hk:M8 q h=some (v,h')):CALL Tryz.prog q h (λr pm h2=>r=.ok v/\pm=none/\h2=h'):=by
 unfold M8 at hk;split at hk
 ·rename_i f g b o;cases hcd:(Nat.beq f 252&&(Nat.beq g 288&&(Nat.beq o 0&&Nat.blt b h.next)))with
  |false=>rw[hcd]at hk;cases hk
  |true=>
   rw[hcd]at hk;simp only[gJ]at hcd;obtain⟨h1,h2,h3,h4⟩:=hcd;have h1:=iZ h1;have h2:=iZ h2;have h3:=iZ h3;have h4:b<h.next:=jT h4
   subst h1 h2 h3;simp only[cond_true]at hk;split at hk
   ·rename_i m hb;cases hcm:Nat.blt m h.next with
    |false=>rw[hcm]at hk;cases hk
    |true=>
     rw[hcm]at hk;simp only[cond_true]at hk;split at hk
     ·rename_i es clock hm;cases hf:IR es clock with
      |false=>rw[hf]at hk;cases hk
      |true=>
       rw[hf]at hk;simp only[cond_true,aA,cB]at hk;obtain⟨rfl,rfl⟩:=hk;obtain⟨e1,e2,e3⟩:=aec hf;exact aeb hb h4 (jT hcm) hm e1 e2 e3
     ·cases hk
   ·cases hk
 ·cases hk
noncomputable def EC:Nat->Option (dP->IH->Option (Value×IH)):=λf=>cond (Nat.beq f 252) (some M8) (M7 f)
theorem Um{f:Nat}{g:dP->IH->Option (Value×IH)}(hm:EC f=some g){q:dP}{h:IH}{v:Value}{h':IH}(ht:g q h=some (v,h')):CALL Tryz.prog q h (λr pm h2=>r=.ok v/\pm=none/\h2=h'):=by
 simp only[EC]at hm;cases h1:Nat.beq f 252 with
 |true=>rw[h1]at hm;cases hm;exact aed ht
 |false=>rw[h1]at hm;exact ad5 hm ht
noncomputable def Un:Env:=nE Tryz.prog (Gf 254 301) EC
theorem aee:vN Un:=xD _ _ _ (by
 intro f q h v h' hm _ _;cases e:EC f with
 |none=>rw[e]at hm;cases hm
 |some g=>rw[e]at hm;exact Um e hm)
