/-
  The names of the forms, sorted, whatever the order in which the map gives them.
-/
import Derived.Test.YtoohgkkmdnbnfaaGreatDoorLibCG
import Derived.Test.YtoohgkkmdnbnfaaGreatDoorSaneAG
set_option linter.all false
namespace Go.Proofs.YtoohgkkmdnbnfaaGreatDoor
open Go.Ideal Kd
theorem Pq(a b:List UInt8):(decide (a<=b)||decide (b<=a))=true:=by
 rcases List.le_total a b with h|h<;>simp[h]
theorem Ps{zs ks rs:List ByteArray}(hp:zs.Perm ks)(hr:rs.Perm ks)(hs:(rs.map λz=>z.data.toList).Pairwise λa b=>decide (a<=b)=true):fZ zs=rs:=by
 have h1:qL zs=rs.map λz=>z.data.toList:=by
  unfold qL;refine List.Perm.eq_of_pairwise (le:=λa b=>decide (a<=b)=true) (λa b _ _ h1 h2=>?_) (List.pairwise_mergeSort (λa b c h1 h2=>?_) Pq _) hs (((List.mergeSort_perm _ _).trans (hp.map _)).trans (hr.map _).symm)
  ·exact List.le_antisymm (jO h1) (jO h2)
  ·exact mO (List.le_trans (jO h1) (jO h2))
 unfold fZ;rw[h1,uy];exact(List.map_congr_left λz _=>rfl).trans (List.map_id _)
def gp(l:List Nat):ByteArray:=⟨⟨l.map UInt8.ofNat⟩⟩
def kF:List ByteArray:=[gp [101,97,99,104],gp [117,110,108,105,107,101],gp [97,112,97,114,116],gp [110,111,116],gp [99,111,110,110,101,99,116,101,100],gp [108,111,111,112],gp [103,105,118,101,110],gp [102,105,108,108,101,100],gp [115,116,101,112,115]]
def lm:List ByteArray:=[gp [97,112,97,114,116],gp [99,111,110,110,101,99,116,101,100],gp [101,97,99,104],gp [102,105,108,108,101,100],gp [103,105,118,101,110],gp [108,111,111,112],gp [110,111,116],gp [115,116,101,112,115],gp [117,110,108,105,107,101]]
theorem Pt:lm.Perm kF:=by
 unfold lm kF;decide
theorem Pv:(lm.map λz=>z.data.toList).Pairwise λa b=>decide (a<=b)=true:=by
 unfold lm;decide
theorem Pw:kF.Nodup:=by
 unfold kF;decide
theorem Px{h:IH}{b m clock:Nat}{es:List MapEntry}(hb:h.get b=some (.cells [.map (some m)]))(hbn:b<h.next)(hmn:m<h.next)(hm:h.get m=some (.map es clock))(hkeys:es.map (·.key)=kF.map .string)(hborn:es.map (·.born)=List.range 9)(hc:8<clock):
 CALL Tryz.prog ⟨.func 252,[.func (.func 288) ⟨[]⟩ ⟨[ptr' b]⟩],[],none⟩ h (λr pm h2=>r=.ok (.slice (some ⟨h.next,0,some 1⟩) 9 9)/\pm=none/\h2=h.new (.cells (lm.map .string))):=by
 let d:Wd:=⟨⟨h.t,h.next,h.next⟩,λi=>i<h.next,λi hi=>hi⟩
 let aW:List (ByteArray×Value):=kF.zip (es.map (·.val))
 have hlen:es.length=9:=by have:=congrArg List.length hborn;simpa using this
 have hent:es.map (λe=>(e.key,e.val))=aW.map λp=>(iA p.1,p.2):=by
  have h1:es.map (λe=>(e.key,e.val))=(es.map (·.key)).zip (es.map (·.val)):=by rw[List.zip_map']
  rw[h1,hkeys];show(kF.map Value.string).zip (es.map (·.val))=(kF.zip (es.map (·.val))).map _;rw[List.zip_map_left];exact List.map_congr_left λp _=>rfl
 have hk1:aW.map (·.1)=kF:=List.map_fst_zip (by rw[bW,hlen];exact aB _);have hmap:xe iA aW es clock:=⟨hent,λe he=>by
  have:e.born∈es.map (·.born):=jN.2 ⟨e,he,rfl⟩;rw[hborn,uo]at this;omega,by rw[hborn];exact List.nodup_range,by rw[hk1];exact Pw⟩
 have hF:∀f∈[eT b 0 [.map (some m)],xg iA m aW],f.p d:=by
  intro f hf;rcases aR.1 hf with rfl|hf
  ·exact⟨_,⟨hbn,.inl hb⟩,λj u hj=>by rw[dU];exact hj⟩
  ·rw[bV.1 hf];exact⟨hmn,es,clock,hm,hmap⟩
 have st:St [] d [] [eT b 0 [.map (some m)],xg iA m aW] d:=⟨⟨aB _,λ_ _ _=>rfl,λ_ _=>rfl⟩,Wd.Le.refl d,λi hi hz=>.inl hz,⟨[],rfl,List.nodup_nil,by simp⟩,hF⟩
 refine .cut (lm.map .string) 9 1 (by rfl) (by simp[lm]) (.inr rfl) _ (Pg (Pb (b:=b) (bm:=m) (aW:=aW)) (λxs hx=>by have:=hx.length_eq;rw[hk1]at this;rw[this];exact⟨by decide,by decide⟩) [] d st) rfl ?_ ⟨rfl,rfl,rfl⟩;rintro r pm h' ⟨rfl,w',y,rfl,s,rfl,hy⟩;have hlow:=s.agree.low (aB _) (by simp);rw[hk1]at hy;have hsb:=Ps hy Pt Pv;obtain⟨S,⟨S1,S2,q1,q2,e⟩,h2,h3⟩:=s.own;have hl:y.xs.length=(fZ y.xs).length:=(xC _).symm;rw[hl]at q1;obtain⟨c,cells,e1,e2,e3,e4,e5⟩:=Fp q1 (by rw[hsb];decide);rw[hsb]at e1 e4 e5;subst e2;refine⟨rfl,hlow,c,0,9,?_,?_,(λh=>by cases h),?_⟩
 ·show fF.ok (gv bF.n y.c y.xs.length)=_;rw[hl,hsb,e1];rfl
 ·rcases(h3 c (by rw[e];simp)).1 with q|q
  ·exact q
  ·cases q
 ·have hcells:cells=lm.map .string:=by
   apply gX;intro j;by_cases hj:j<lm.length
   ·obtain⟨_,u1,_⟩:=e5 j _ (aU hj);have:=u1 0 _ rfl;rw[bN,aU hj];simpa[bF]using this
   ·rw[dF (by rw[e4];simpa[bF]using hj),dF (by rw[bW];omega)]
  unfold IH.jv;simp only[e3,hcells,gB,gD,q9];rw[if_pos (by simp),nT]
noncomputable def xJ(es:List MapEntry)(clock:Nat):Bool:=fG 5 (.agg ⟨kF.map .string⟩) (.agg ⟨eu (λe=>e.key) es⟩)&&(fG 5 (.agg ⟨(List.range 9).map λi=>.int .i64 (.ofNat i)⟩) (.agg ⟨eu (λe=>.int .i64 (.ofNat e.born)) es⟩)&&Nat.blt 8 clock)
noncomputable def Bc:aK->IH->Option (Value×IH):=λq h=>
 match q with
 |⟨.func f,[.func (.func g) ⟨[]⟩ ⟨[.pointer (some ⟨b,o,none⟩)]⟩],[],none⟩=>cond (Nat.beq f 252&&(Nat.beq g 288&&(Nat.beq o 0&&Nat.blt b h.next))) (match h.get b with
  |some (.cells [.map (some m)])=>cond (Nat.blt m h.next) (match h.get m with
   |some (.map es clock)=>cond (xJ es clock) (some (.slice (some ⟨h.next,0,some 1⟩) 9 9,h.new (.cells (lm.map .string)))) none
   |_=>none) none
  |_=>none) none
 |_=>none
theorem Py{es:List MapEntry}{clock:Nat}(h:xJ es clock=true):es.map (·.key)=kF.map .string/\es.map (·.born)=List.range 9/\8<clock:=by
 unfold xJ at h;simp only[bE]at h;obtain⟨h1,h2,h3⟩:=h;have e1:=kU _ _ _ h1;have e2:=kU _ _ _ h2;injection e1 with e1;injection e1 with e1;injection e2 with e2;injection e2 with e2;rw[lS]at e1 e2;refine⟨e1.symm,?_,dN h3⟩;have:=congrArg (List.map λv:Value=>match v with| .int _ n=>n.toNat|_=>0) e2;rw[uy,uy]at this;have h4:(List.range 9).map (λi:Nat=>i)=es.map (·.born):=this;rw[<- h4,List.map_id']
theorem Pz{q:aK}{h:IH}{v:Value}{h':IH}(hk:Bc q h=some (v,h')):CALL Tryz.prog q h (λr pm h2=>r=.ok v/\pm=none/\h2=h'):=by
 unfold Bc at hk;split at hk
 ·rename_i f g b o;cases hcd:(Nat.beq f 252&&(Nat.beq g 288&&(Nat.beq o 0&&Nat.blt b h.next)))with
  |false=>rw[hcd]at hk;cases hk
  |true=>
   rw[hcd]at hk;simp only[bE]at hcd;obtain⟨h1,h2,h3,h4⟩:=hcd;have h1:=cz h1;have h2:=cz h2;have h3:=cz h3;have h4:b<h.next:=dN h4
   subst h1 h2 h3;simp only[cond_true]at hk;split at hk
   ·rename_i m hb;cases hcm:Nat.blt m h.next with
    |false=>rw[hcm]at hk;cases hk
    |true=>
     rw[hcm]at hk;simp only[cond_true]at hk;split at hk
     ·rename_i es clock hm;cases hf:xJ es clock with
      |false=>rw[hf]at hk;cases hk
      |true=>
       rw[hf]at hk;simp only[cond_true,ah,aD]at hk;obtain⟨rfl,rfl⟩:=hk;obtain⟨e1,e2,e3⟩:=Py hf;exact Px hb h4 (dN hcm) hm e1 e2 e3
     ·cases hk
   ·cases hk
 ·cases hk
noncomputable def ug:Nat->Option (aK->IH->Option (Value×IH)):=λf=>cond (Nat.beq f 252) (some Bc) (Bb f)
theorem FT{f:Nat}{g:aK->IH->Option (Value×IH)}(hm:ug f=some g){q:aK}{h:IH}{v:Value}{h':IH}(ht:g q h=some (v,h')):CALL Tryz.prog q h (λr pm h2=>r=.ok v/\pm=none/\h2=h'):=by
 simp only[ug]at hm;cases h1:Nat.beq f 252 with
 |true=>rw[h1]at hm;cases hm;exact Pz ht
 |false=>rw[h1]at hm;exact Pp hm ht
noncomputable def FU:Env:=iV Tryz.prog (vG 254 301) ug
theorem PD:l7 FU:=oJ _ _ _ (by
 intro f q h v h' hm _ _;cases e:ug f with
 |none=>rw[e]at hm;cases hm
 |some g=>rw[e]at hm;exact FT e hm)
