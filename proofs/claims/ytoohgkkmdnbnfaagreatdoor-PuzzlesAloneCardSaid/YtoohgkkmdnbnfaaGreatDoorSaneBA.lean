/-
  The names of the forms, sorted, whatever the order in which the map gives them.
-/
import Derived.Test.YtoohgkkmdnbnfaaGreatDoorLibDA
import Derived.Test.YtoohgkkmdnbnfaaGreatDoorSaneAA
set_option linter.all false
namespace Go.Proofs.YtoohgkkmdnbnfaaGreatDoor
open Go.Ideal Kd
theorem aeN(a b:List UInt8):(decide (a<=b)||decide (b<=a))=true:=by
 rcases List.le_total a b with h|h<;>simp[h]
theorem aeO{zs ks rs:List ByteArray}(hp:zs.Perm ks)(hr:rs.Perm ks)(hs:(rs.map λz=>z.data.toList).Pairwise λa b=>decide (a<=b)=true):nG zs=rs:=by
 have h1:Ce zs=rs.map λz=>z.data.toList:=by
  unfold Ce;refine List.Perm.eq_of_pairwise (le:=λa b=>decide (a<=b)=true) (λa b _ _ h1 h2=>?_) (Oz (λa b c h1 h2=>?_) aeN _) hs (((xk _ _).trans (hp.map _)).trans (hr.map _).symm)
  ·exact List.le_antisymm (gY h1) (gY h2)
  ·exact dZ (List.le_trans (gY h1) (gY h2))
 unfold nG;rw[h1,u7];exact(Gg λz _=>rfl).trans (List.map_id _)
def nH(l:List Nat):ByteArray:=⟨⟨l.map UInt8.ofNat⟩⟩
def tX:List ByteArray:=[nH [101,97,99,104],nH [117,110,108,105,107,101],nH [97,112,97,114,116],nH [110,111,116],nH [99,111,110,110,101,99,116,101,100],nH [108,111,111,112],nH [103,105,118,101,110],nH [102,105,108,108,101,100],nH [115,116,101,112,115]]
def uU:List ByteArray:=[nH [97,112,97,114,116],nH [99,111,110,110,101,99,116,101,100],nH [101,97,99,104],nH [102,105,108,108,101,100],nH [103,105,118,101,110],nH [108,111,111,112],nH [110,111,116],nH [115,116,101,112,115],nH [117,110,108,105,107,101]]
theorem aeP:uU.Perm tX:=by
 unfold uU tX;decide
theorem aeQ:(uU.map λz=>z.data.toList).Pairwise λa b=>decide (a<=b)=true:=by
 unfold uU;decide
theorem aeR:tX.Nodup:=by
 unfold tX;decide
theorem aeS{h:IH}{b m clock:Nat}{es:List MapEntry}(hb:h.get b=some (.cells [.map (some m)]))(hbn:b<h.next)(hmn:m<h.next)(hm:h.get m=some (.map es clock))(hkeys:es.map (·.key)=tX.map .string)(hborn:es.map (·.born)=List.range 9)(hc:8<clock):
 CALL Tryz.prog ⟨.func 252,[.func (.func 288) ⟨[]⟩ ⟨[ptr' b]⟩],[],none⟩ h (λr pm h2=>r=.ok (.slice (some ⟨h.next,0,some 1⟩) 9 9)/\pm=none/\h2=h.new (.cells (uU.map .string))):=by
 let d:Wd:=⟨⟨h.t,h.next,h.next⟩,λi=>i<h.next,λi hi=>hi⟩
 let ai:List (ByteArray×Value):=tX.zip (es.map (·.val))
 have hlen:es.length=9:=by have:=congrArg List.length hborn;simpa using this
 have hent:es.map (λe=>(e.key,e.val))=ai.map λp=>(fP p.1,p.2):=by
  have h1:es.map (λe=>(e.key,e.val))=(es.map (·.key)).zip (es.map (·.val)):=by rw[List.zip_map']
  rw[h1,hkeys];show(tX.map Value.string).zip (es.map (·.val))=(tX.zip (es.map (·.val))).map _;rw[List.zip_map_left];exact Gg λp _=>rfl
 have hk1:ai.map (·.1)=tX:=List.map_fst_zip (by rw[bR,hlen];exact bJ _);have hmap:yj fP ai es clock:=⟨hent,λe he=>by
  have:e.born∈es.map (·.born):=fo.2 ⟨e,he,rfl⟩;rw[hborn,uj]at this;omega,by rw[hborn];exact List.nodup_range,by rw[hk1];exact aeR⟩
 have hF:∀f∈[eG b 0 [.map (some m)],rR fP m ai],f.p d:=by
  intro f hf;rcases dF.1 hf with rfl|hf
  ·exact⟨_,⟨hbn,.inl hb⟩,λj u hj=>by rw[eT];exact hj⟩
  ·rw[bH.1 hf];exact⟨hmn,es,clock,hm,hmap⟩
 have st:St [] d [] [eG b 0 [.map (some m)],rR fP m ai] d:=⟨⟨bJ _,λ_ _ _=>rfl,λ_ _=>rfl⟩,Wd.Le.refl d,λi hi hz=>.inl hz,⟨[],rfl,ul,by simp⟩,hF⟩
 refine .cut (uU.map .string) 9 1 (by rfl) (by simp[uU]) (.inr rfl) _ (aeF (aeC (b:=b) (bm:=m) (ai:=ai)) (λxs hx=>by have:=hx.length_eq;rw[hk1]at this;rw[this];exact⟨by decide,by decide⟩) [] d st) rfl ?_ ⟨rfl,rfl,rfl⟩;rintro r pm h' ⟨rfl,w',y,rfl,s,rfl,hy⟩;have hlow:=s.agree.low (bJ _) (by simp);rw[hk1]at hy;have hsb:=aeO hy aeP aeQ;obtain⟨S,⟨S1,S2,q1,q2,e⟩,h2,h3⟩:=s.own;have hl:y.xs.length=(nG y.xs).length:=(Ir _).symm;rw[hl]at q1;obtain⟨c,cells,e1,e2,e3,e4,e5⟩:=SK q1 (by rw[hsb];decide);rw[hsb]at e1 e4 e5;subst e2;refine⟨rfl,hlow,c,0,9,?_,?_,(λh=>by cases h),?_⟩
 ·show iH.ok (gv aR.n y.c y.xs.length)=_;rw[hl,hsb,e1];rfl
 ·rcases(h3 c (by rw[e];simp)).1 with q|q
  ·exact q
  ·cases q
 ·have hcells:cells=uU.map .string:=by
   apply jW;intro j;by_cases hj:j<uU.length
   ·obtain⟨_,u1,_⟩:=e5 j _ (cB hj);have:=u1 0 _ rfl;rw[eZ,cB hj];simpa[aR]using this
   ·rw[iD (by rw[e4];simpa[aR]using hj),iD (by rw[bR];omega)]
  unfold IH.oh;simp only[e3,hcells,nu,ny,uX];rw[if_pos (by simp),bK]
noncomputable def I8(es:List MapEntry)(clock:Nat):Bool:=mP 5 (.agg ⟨tX.map .string⟩) (.agg ⟨jY (λe=>e.key) es⟩)&&(mP 5 (.agg ⟨(List.range 9).map λi=>.int .i64 (.ofNat i)⟩) (.agg ⟨jY (λe=>.int .i64 (.ofNat e.born)) es⟩)&&Nat.blt 8 clock)
noncomputable def Np:dO->IH->Option (Value×IH):=λq h=>
 match q with
 |⟨.func f,[.func (.func g) ⟨[]⟩ ⟨[.pointer (some ⟨b,o,none⟩)]⟩],[],none⟩=>cond (Nat.beq f 252&&(Nat.beq g 288&&(Nat.beq o 0&&Nat.blt b h.next))) (match h.get b with
  |some (.cells [.map (some m)])=>cond (Nat.blt m h.next) (match h.get m with
   |some (.map es clock)=>cond (I8 es clock) (some (.slice (some ⟨h.next,0,some 1⟩) 9 9,h.new (.cells (uU.map .string)))) none
   |_=>none) none
  |_=>none) none
 |_=>none
theorem aeT{es:List MapEntry}{clock:Nat}(h:I8 es clock=true):es.map (·.key)=tX.map .string/\es.map (·.born)=List.range 9/\8<clock:=by
 unfold I8 at h;simp only[gL]at h;obtain⟨h1,h2,h3⟩:=h;have e1:=uA _ _ _ h1;have e2:=uA _ _ _ h2;injection e1 with e1;injection e1 with e1;injection e2 with e2;injection e2 with e2;rw[rD]at e1 e2;refine⟨e1.symm,?_,jV h3⟩;have:=congrArg (List.map λv:Value=>match v with| .int _ n=>n.toNat|_=>0) e2;rw[u7,u7]at this;have h4:(List.range 9).map (λi:Nat=>i)=es.map (·.born):=this;rw[<- h4,List.map_id']
theorem aeU{q:dO}{h:IH}{v:Value}{h':IH}(hk:Np q h=some (v,h')):CALL Tryz.prog q h (λr pm h2=>r=.ok v/\pm=none/\h2=h'):=by
 unfold Np at hk;split at hk
 ·rename_i f g b o;cases hcd:(Nat.beq f 252&&(Nat.beq g 288&&(Nat.beq o 0&&Nat.blt b h.next)))with
  |false=>rw[hcd]at hk;cases hk
  |true=>
   rw[hcd]at hk;simp only[gL]at hcd;obtain⟨h1,h2,h3,h4⟩:=hcd;have h1:=jd h1;have h2:=jd h2;have h3:=jd h3;have h4:b<h.next:=jV h4
   subst h1 h2 h3;simp only[cond_true]at hk;split at hk
   ·rename_i m hb;cases hcm:Nat.blt m h.next with
    |false=>rw[hcm]at hk;cases hk
    |true=>
     rw[hcm]at hk;simp only[cond_true]at hk;split at hk
     ·rename_i es clock hm;cases hf:I8 es clock with
      |false=>rw[hf]at hk;cases hk
      |true=>
       rw[hf]at hk;simp only[cond_true,aC,cK]at hk;obtain⟨rfl,rfl⟩:=hk;obtain⟨e1,e2,e3⟩:=aeT hf;exact aeS hb h4 (jV hcm) hm e1 e2 e3
     ·cases hk
   ·cases hk
 ·cases hk
noncomputable def FN:Nat->Option (dO->IH->Option (Value×IH)):=λf=>cond (Nat.beq f 252) (some Np) (Nn f)
theorem UK{f:Nat}{g:dO->IH->Option (Value×IH)}(hm:FN f=some g){q:dO}{h:IH}{v:Value}{h':IH}(ht:g q h=some (v,h')):CALL Tryz.prog q h (λr pm h2=>r=.ok v/\pm=none/\h2=h'):=by
 simp only[FN]at hm;cases h1:Nat.beq f 252 with
 |true=>rw[h1]at hm;cases hm;exact aeU ht
 |false=>rw[h1]at hm;exact aeM hm ht
noncomputable def UL:Env:=nN Tryz.prog (Hg 254 301) FN
theorem aeV:vR UL:=xL _ _ _ (by
 intro f q h v h' hm _ _;cases e:FN f with
 |none=>rw[e]at hm;cases hm
 |some g=>rw[e]at hm;exact UK e hm)
