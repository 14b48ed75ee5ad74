/-
  The names of the forms, sorted, whatever the order in which the map gives them.
-/
import Derived.Test.YtoohgkkmdnbnfaaGreatDoorLibDB
import Derived.Test.YtoohgkkmdnbnfaaGreatDoorSaneAB
set_option linter.all false
namespace Go.Proofs.YtoohgkkmdnbnfaaGreatDoor
open Go.Ideal Kd
theorem ab8(a b:List UInt8):(decide (a<=b)||decide (b<=a))=true:=by
 rcases List.le_total a b with h|h<;>simp[h]
theorem ab9{zs ks rs:List ByteArray}(hp:zs.Perm ks)(hr:rs.Perm ks)(hs:(rs.map λz=>z.data.toList).Pairwise λa b=>decide (a<=b)=true):mi zs=rs:=by
 have h1:AB zs=rs.map λz=>z.data.toList:=by
  unfold AB;refine List.Perm.eq_of_pairwise (le:=λa b=>decide (a<=b)=true) (λa b _ _ h1 h2=>?_) (ME (λa b c h1 h2=>?_) ab8 _) hs (((zy _ _).trans (hp.map _)).trans (hr.map _).symm)
  ·exact List.le_antisymm (iB h1) (iB h2)
  ·exact eB (List.le_trans (iB h1) (iB h2))
 unfold mi;rw[h1,vW];exact(Ez λz _=>rfl).trans (List.map_id _)
def mq(l:List Nat):ByteArray:=⟨⟨l.map UInt8.ofNat⟩⟩
def sM:List ByteArray:=[mq [101,97,99,104],mq [117,110,108,105,107,101],mq [97,112,97,114,116],mq [110,111,116],mq [99,111,110,110,101,99,116,101,100],mq [108,111,111,112],mq [103,105,118,101,110],mq [102,105,108,108,101,100],mq [115,116,101,112,115]]
def tX:List ByteArray:=[mq [97,112,97,114,116],mq [99,111,110,110,101,99,116,101,100],mq [101,97,99,104],mq [102,105,108,108,101,100],mq [103,105,118,101,110],mq [108,111,111,112],mq [110,111,116],mq [115,116,101,112,115],mq [117,110,108,105,107,101]]
theorem acd:tX.Perm sM:=by
 unfold tX sM;decide
theorem ace:(tX.map λz=>z.data.toList).Pairwise λa b=>decide (a<=b)=true:=by
 unfold tX;decide
theorem acf:sM.Nodup:=by
 unfold sM;decide
theorem acg{h:IH}{b m clock:Nat}{es:List MapEntry}(hb:h.get b=some (.cells [.map (some m)]))(hbn:b<h.next)(hmn:m<h.next)(hm:h.get m=some (.map es clock))(hkeys:es.map (·.key)=sM.map .string)(hborn:es.map (·.born)=List.range 9)(hc:8<clock):
 CALL Tryz.prog ⟨.func 252,[.func (.func 288) ⟨[]⟩ ⟨[ptr' b]⟩],[],none⟩ h (λr pm h2=>r=.ok (.slice (some ⟨h.next,0,some 1⟩) 9 9)/\pm=none/\h2=h.new (.cells (tX.map .string))):=by
 let d:Wd:=⟨⟨h.t,h.next,h.next⟩,λi=>i<h.next,λi hi=>hi⟩
 let ai:List (ByteArray×Value):=sM.zip (es.map (·.val))
 have hlen:es.length=9:=by have:=congrArg List.length hborn;simpa using this
 have hent:es.map (λe=>(e.key,e.val))=ai.map λp=>(fD p.1,p.2):=by
  have h1:es.map (λe=>(e.key,e.val))=(es.map (·.key)).zip (es.map (·.val)):=by rw[List.zip_map']
  rw[h1,hkeys];show(sM.map Value.string).zip (es.map (·.val))=(sM.zip (es.map (·.val))).map _;rw[List.zip_map_left];exact Ez λp _=>rfl
 have hk1:ai.map (·.1)=sM:=List.map_fst_zip (by rw[di,hlen];exact bI _);have hmap:wR fD ai es clock:=⟨hent,λe he=>by
  have:e.born∈es.map (·.born):=je.2 ⟨e,he,rfl⟩;rw[hborn,vU]at this;omega,by rw[hborn];exact List.nodup_range,by rw[hk1];exact acf⟩
 have hF:∀f∈[gH b 0 [.map (some m)],qQ fD m ai],f.p d:=by
  intro f hf;rcases dF.1 hf with rfl|hf
  ·exact⟨_,⟨hbn,.inl hb⟩,λj u hj=>by rw[eH];exact hj⟩
  ·rw[bG.1 hf];exact⟨hmn,es,clock,hm,hmap⟩
 have st:St [] d [] [gH b 0 [.map (some m)],qQ fD m ai] d:=⟨⟨bI _,λ_ _ _=>rfl,λ_ _=>rfl⟩,Wd.Le.refl d,λi hi hz=>.inl hz,⟨[],rfl,um,by simp⟩,hF⟩
 refine .cut (tX.map .string) 9 1 (by rfl) (by simp[tX]) (.inr rfl) _ (ab0 (abX (b:=b) (bm:=m) (ai:=ai)) (λxs hx=>by have:=hx.length_eq;rw[hk1]at this;rw[this];exact⟨by decide,by decide⟩) [] d st) rfl ?_ ⟨rfl,rfl,rfl⟩;rintro r pm h' ⟨rfl,w',y,rfl,s,rfl,hy⟩;have hlow:=s.agree.low (bI _) (by simp);rw[hk1]at hy;have hsb:=ab9 hy acd ace;obtain⟨S,⟨S1,S2,q1,q2,e⟩,h2,h3⟩:=s.own;have hl:y.xs.length=(mi y.xs).length:=(Gf _).symm;rw[hl]at q1;obtain⟨c,cells,e1,e2,e3,e4,e5⟩:=QA q1 (by rw[hsb];decide);rw[hsb]at e1 e4 e5;subst e2;refine⟨rfl,hlow,c,0,9,?_,?_,(λh=>by cases h),?_⟩
 ·show iy.ok (gv aN.n y.c y.xs.length)=_;rw[hl,hsb,e1];rfl
 ·rcases(h3 c (by rw[e];simp)).1 with q|q
  ·exact q
  ·cases q
 ·have hcells:cells=tX.map .string:=by
   apply jw;intro j;by_cases hj:j<tX.length
   ·obtain⟨_,u1,_⟩:=e5 j _ (cK hj);have:=u1 0 _ rfl;rw[eY,cK hj];simpa[aN]using this
   ·rw[gL (by rw[e4];simpa[aN]using hj),gL (by rw[di];omega)]
  unfold IH.ny;simp only[e3,hcells,l6,l7,uj];rw[if_pos (by simp),bK]
noncomputable def GA(es:List MapEntry)(clock:Nat):Bool:=lM 5 (.agg ⟨sM.map .string⟩) (.agg ⟨jP (λe=>e.key) es⟩)&&(lM 5 (.agg ⟨(List.range 9).map λi=>.int .i64 (.ofNat i)⟩) (.agg ⟨jP (λe=>.int .i64 (.ofNat e.born)) es⟩)&&Nat.blt 8 clock)
noncomputable def Lm:dI->IH->Option (Value×IH):=λq h=>
 match q with
 |⟨.func f,[.func (.func g) ⟨[]⟩ ⟨[.pointer (some ⟨b,o,none⟩)]⟩],[],none⟩=>cond (Nat.beq f 252&&(Nat.beq g 288&&(Nat.beq o 0&&Nat.blt b h.next))) (match h.get b with
  |some (.cells [.map (some m)])=>cond (Nat.blt m h.next) (match h.get m with
   |some (.map es clock)=>cond (GA es clock) (some (.slice (some ⟨h.next,0,some 1⟩) 9 9,h.new (.cells (tX.map .string)))) none
   |_=>none) none
  |_=>none) none
 |_=>none
theorem ach{es:List MapEntry}{clock:Nat}(h:GA es clock=true):es.map (·.key)=sM.map .string/\es.map (·.born)=List.range 9/\8<clock:=by
 unfold GA at h;simp only[fZ]at h;obtain⟨h1,h2,h3⟩:=h;have e1:=tC _ _ _ h1;have e2:=tC _ _ _ h2;injection e1 with e1;injection e1 with e1;injection e2 with e2;injection e2 with e2;rw[rU]at e1 e2;refine⟨e1.symm,?_,jD h3⟩;have:=congrArg (List.map λv:Value=>match v with| .int _ n=>n.toNat|_=>0) e2;rw[vW,vW]at this;have h4:(List.range 9).map (λi:Nat=>i)=es.map (·.born):=this;rw[<- h4,List.map_id']
theorem aci{q:dI}{h:IH}{v:Value}{h':IH}(hk:Lm q h=some (v,h')):CALL Tryz.prog q h (λr pm h2=>r=.ok v/\pm=none/\h2=h'):=by
 unfold Lm at hk;split at hk
 ·rename_i f g b o;cases hcd:(Nat.beq f 252&&(Nat.beq g 288&&(Nat.beq o 0&&Nat.blt b h.next)))with
  |false=>rw[hcd]at hk;cases hk
  |true=>
   rw[hcd]at hk;simp only[fZ]at hcd;obtain⟨h1,h2,h3,h4⟩:=hcd;have h1:=iN h1;have h2:=iN h2;have h3:=iN h3;have h4:b<h.next:=jD h4
   subst h1 h2 h3;simp only[cond_true]at hk;split at hk
   ·rename_i m hb;cases hcm:Nat.blt m h.next with
    |false=>rw[hcm]at hk;cases hk
    |true=>
     rw[hcm]at hk;simp only[cond_true]at hk;split at hk
     ·rename_i es clock hm;cases hf:GA es clock with
      |false=>rw[hf]at hk;cases hk
      |true=>
       rw[hf]at hk;simp only[cond_true,aB,bW]at hk;obtain⟨rfl,rfl⟩:=hk;obtain⟨e1,e2,e3⟩:=ach hf;exact acg hb h4 (jD hcm) hm e1 e2 e3
     ·cases hk
   ·cases hk
 ·cases hk
noncomputable def Ec:Nat->Option (dI->IH->Option (Value×IH)):=λf=>cond (Nat.beq f 252) (some Lm) (Ll f)
theorem R9{f:Nat}{g:dI->IH->Option (Value×IH)}(hm:Ec f=some g){q:dI}{h:IH}{v:Value}{h':IH}(ht:g q h=some (v,h')):CALL Tryz.prog q h (λr pm h2=>r=.ok v/\pm=none/\h2=h'):=by
 simp only[Ec]at hm;cases h1:Nat.beq f 252 with
 |true=>rw[h1]at hm;cases hm;exact aci ht
 |false=>rw[h1]at hm;exact ab7 hm ht
noncomputable def Sa:Env:=mJ Tryz.prog (Fw 254 301) Ec
theorem acj:uM Sa:=wF _ _ _ (by
 intro f q h v h' hm _ _;cases e:Ec f with
 |none=>rw[e]at hm;cases hm
 |some g=>rw[e]at hm;exact R9 e hm)
