/-
  The names of the forms, sorted, whatever the order in which the map gives them.
-/
import Derived.Test.YtoohgkkmdnbnfaaGreatDoorLibDE
import Derived.Test.YtoohgkkmdnbnfaaGreatDoorSaneAE
set_option linter.all false
namespace Go.Proofs.YtoohgkkmdnbnfaaGreatDoor
open Go.Ideal Kd
theorem ab1(a b:List UInt8):(decide (a<=b)||decide (b<=a))=true:=by
 rcases List.le_total a b with h|h<;>simp[h]
theorem ab2{zs ks rs:List ByteArray}(hp:zs.Perm ks)(hr:rs.Perm ks)(hs:(rs.map λz=>z.data.toList).Pairwise λa b=>decide (a<=b)=true):lu zs=rs:=by
 have h1:AA zs=rs.map λz=>z.data.toList:=by
  unfold AA;refine List.Perm.eq_of_pairwise (le:=λa b=>decide (a<=b)=true) (λa b _ _ h1 h2=>?_) (LY (λa b c h1 h2=>?_) ab1 _) hs (((wS _ _).trans (hp.map _)).trans (hr.map _).symm)
  ·exact List.le_antisymm (iJ h1) (iJ h2)
  ·exact dU (List.le_trans (iJ h1) (iJ h2))
 unfold lu;rw[h1,sU];exact(Gq λz _=>rfl).trans (List.map_id _)
def lD(l:List Nat):ByteArray:=⟨⟨l.map UInt8.ofNat⟩⟩
def rC:List ByteArray:=[lD [101,97,99,104],lD [117,110,108,105,107,101],lD [97,112,97,114,116],lD [110,111,116],lD [99,111,110,110,101,99,116,101,100],lD [108,111,111,112],lD [103,105,118,101,110],lD [102,105,108,108,101,100],lD [115,116,101,112,115]]
def sN:List ByteArray:=[lD [97,112,97,114,116],lD [99,111,110,110,101,99,116,101,100],lD [101,97,99,104],lD [102,105,108,108,101,100],lD [103,105,118,101,110],lD [108,111,111,112],lD [110,111,116],lD [115,116,101,112,115],lD [117,110,108,105,107,101]]
theorem ab3:sN.Perm rC:=by
 unfold sN rC;decide
theorem ab4:(sN.map λz=>z.data.toList).Pairwise λa b=>decide (a<=b)=true:=by
 unfold sN;decide
theorem ab5:rC.Nodup:=by
 unfold rC;decide
theorem ab6{h:IH}{b m clock:Nat}{es:List MapEntry}(hb:h.get b=some (.cells [.map (some m)]))(hbn:b<h.next)(hmn:m<h.next)(hm:h.get m=some (.map es clock))(hkeys:es.map (·.key)=rC.map .string)(hborn:es.map (·.born)=List.range 9)(hc:8<clock):
 CALL Tryz.prog ⟨.func 252,[.func (.func 288) ⟨[]⟩ ⟨[ptr' b]⟩],[],none⟩ h (λr pm h2=>r=.ok (.slice (some ⟨h.next,0,some 1⟩) 9 9)/\pm=none/\h2=h.new (.cells (sN.map .string))):=by
 let d:Wd:=⟨⟨h.t,h.next,h.next⟩,λi=>i<h.next,λi hi=>hi⟩
 let ah:List (ByteArray×Value):=rC.zip (es.map (·.val))
 have hlen:es.length=9:=by have:=congrArg List.length hborn;simpa using this
 have hent:es.map (λe=>(e.key,e.val))=ah.map λp=>(dZ p.1,p.2):=by
  have h1:es.map (λe=>(e.key,e.val))=(es.map (·.key)).zip (es.map (·.val)):=by rw[List.zip_map']
  rw[h1,hkeys];show(rC.map Value.string).zip (es.map (·.val))=(rC.zip (es.map (·.val))).map _;rw[List.zip_map_left];exact Gq λp _=>rfl
 have hk1:ah.map (·.1)=rC:=List.map_fst_zip (by rw[bT,hlen];exact bn _);have hmap:vX dZ ah es clock:=⟨hent,λe he=>by
  have:e.born∈es.map (·.born):=ed.2 ⟨e,he,rfl⟩;rw[hborn,yQ]at this;omega,by rw[hborn];exact List.nodup_range,by rw[hk1];exact ab5⟩
 have hF:∀f∈[dF b 0 [.map (some m)],qd dZ m ah],f.p d:=by
  intro f hf;rcases cK.1 hf with rfl|hf
  ·exact⟨_,⟨hbn,.inl hb⟩,λj u hj=>by rw[eG];exact hj⟩
  ·rw[bC.1 hf];exact⟨hmn,es,clock,hm,hmap⟩
 have st:St [] d [] [dF b 0 [.map (some m)],qd dZ m ah] d:=⟨⟨bn _,λ_ _ _=>rfl,λ_ _=>rfl⟩,Wd.Le.refl d,λi hi hz=>.inl hz,⟨[],rfl,uS,by simp⟩,hF⟩
 refine .cut (sN.map .string) 9 1 (by rfl) (by simp[sN]) (.inr rfl) _ (abT (abQ (b:=b) (bm:=m) (ah:=ah)) (λxs hx=>by have:=hx.length_eq;rw[hk1]at this;rw[this];exact⟨by decide,by decide⟩) [] d st) rfl ?_ ⟨rfl,rfl,rfl⟩;rintro r pm h' ⟨rfl,w',y,rfl,s,rfl,hy⟩;have hlow:=s.agree.low (bn _) (by simp);rw[hk1]at hy;have hsb:=ab2 hy ab3 ab4;obtain⟨S,⟨S1,S2,q1,q2,e⟩,h2,h3⟩:=s.own;have hl:y.xs.length=(lu y.xs).length:=(Fp _).symm;rw[hl]at q1;obtain⟨c,cells,e1,e2,e3,e4,e5⟩:=QX q1 (by rw[hsb];decide);rw[hsb]at e1 e4 e5;subst e2;refine⟨rfl,hlow,c,0,9,?_,?_,(λh=>by cases h),?_⟩
 ·show gB.ok (gv bV.n y.c y.xs.length)=_;rw[hl,hsb,e1];rfl
 ·rcases(h3 c (by rw[e];simp)).1 with q|q
  ·exact q
  ·cases q
 ·have hcells:cells=sN.map .string:=by
   apply jD;intro j;by_cases hj:j<sN.length
   ·obtain⟨_,u1,_⟩:=e5 j _ (dz hj);have:=u1 0 _ rfl;rw[eX,dz hj];simpa[bV]using this
   ·rw[gy (by rw[e4];simpa[bV]using hj),gy (by rw[bT];omega)]
  unfold IH.mi;simp only[e3,hcells,mo,mU,wQ];rw[if_pos (by simp),eB]
noncomputable def FW(es:List MapEntry)(clock:Nat):Bool:=kM 5 (.agg ⟨rC.map .string⟩) (.agg ⟨je (λe=>e.key) es⟩)&&(kM 5 (.agg ⟨(List.range 9).map λi=>.int .i64 (.ofNat i)⟩) (.agg ⟨je (λe=>.int .i64 (.ofNat e.born)) es⟩)&&Nat.blt 8 clock)
noncomputable def KD:cz->IH->Option (Value×IH):=λq h=>
 match q with
 |⟨.func f,[.func (.func g) ⟨[]⟩ ⟨[.pointer (some ⟨b,o,none⟩)]⟩],[],none⟩=>cond (Nat.beq f 252&&(Nat.beq g 288&&(Nat.beq o 0&&Nat.blt b h.next))) (match h.get b with
  |some (.cells [.map (some m)])=>cond (Nat.blt m h.next) (match h.get m with
   |some (.map es clock)=>cond (FW es clock) (some (.slice (some ⟨h.next,0,some 1⟩) 9 9,h.new (.cells (sN.map .string)))) none
   |_=>none) none
  |_=>none) none
 |_=>none
theorem ab7{es:List MapEntry}{clock:Nat}(h:FW es clock=true):es.map (·.key)=rC.map .string/\es.map (·.born)=List.range 9/\8<clock:=by
 unfold FW at h;simp only[fB]at h;obtain⟨h1,h2,h3⟩:=h;have e1:=rX _ _ _ h1;have e2:=rX _ _ _ h2;injection e1 with e1;injection e1 with e1;injection e2 with e2;injection e2 with e2;rw[pM]at e1 e2;refine⟨e1.symm,?_,jd h3⟩;have:=congrArg (List.map λv:Value=>match v with| .int _ n=>n.toNat|_=>0) e2;rw[sU,sU]at this;have h4:(List.range 9).map (λi:Nat=>i)=es.map (·.born):=this;rw[<- h4,List.map_id']
theorem ab8{q:cz}{h:IH}{v:Value}{h':IH}(hk:KD q h=some (v,h')):CALL Tryz.prog q h (λr pm h2=>r=.ok v/\pm=none/\h2=h'):=by
 unfold KD at hk;split at hk
 ·rename_i f g b o;cases hcd:(Nat.beq f 252&&(Nat.beq g 288&&(Nat.beq o 0&&Nat.blt b h.next)))with
  |false=>rw[hcd]at hk;cases hk
  |true=>
   rw[hcd]at hk;simp only[fB]at hcd;obtain⟨h1,h2,h3,h4⟩:=hcd;have h1:=gW h1;have h2:=gW h2;have h3:=gW h3;have h4:b<h.next:=jd h4
   subst h1 h2 h3;simp only[cond_true]at hk;split at hk
   ·rename_i m hb;cases hcm:Nat.blt m h.next with
    |false=>rw[hcm]at hk;cases hk
    |true=>
     rw[hcm]at hk;simp only[cond_true]at hk;split at hk
     ·rename_i es clock hm;cases hf:FW es clock with
      |false=>rw[hf]at hk;cases hk
      |true=>
       rw[hf]at hk;simp only[cond_true,ay,bH]at hk;obtain⟨rfl,rfl⟩:=hk;obtain⟨e1,e2,e3⟩:=ab7 hf;exact ab6 hb h4 (jd hcm) hm e1 e2 e3
     ·cases hk
   ·cases hk
 ·cases hk
noncomputable def Dk:Nat->Option (cz->IH->Option (Value×IH)):=λf=>cond (Nat.beq f 252) (some KD) (KC f)
theorem SC{f:Nat}{g:cz->IH->Option (Value×IH)}(hm:Dk f=some g){q:cz}{h:IH}{v:Value}{h':IH}(ht:g q h=some (v,h')):CALL Tryz.prog q h (λr pm h2=>r=.ok v/\pm=none/\h2=h'):=by
 simp only[Dk]at hm;cases h1:Nat.beq f 252 with
 |true=>rw[h1]at hm;cases hm;exact ab8 ht
 |false=>rw[h1]at hm;exact ab0 hm ht
noncomputable def SE:Env:=lK Tryz.prog (EE 254 301) Dk
theorem ab9:uf SE:=vG _ _ _ (by
 intro f q h v h' hm _ _;cases e:Dk f with
 |none=>rw[e]at hm;cases hm
 |some g=>rw[e]at hm;exact SC e hm)
