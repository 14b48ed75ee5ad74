/-
  The names of the forms, sorted, whatever the order in which the map gives them.
-/
import Derived.Test.YtoohgkkmdnbnfaaGreatDoorLibDF
import Derived.Test.YtoohgkkmdnbnfaaGreatDoorSaneAF
set_option linter.all false
namespace Go.Proofs.YtoohgkkmdnbnfaaGreatDoor
open Go.Ideal Kd
theorem adU(a b:List UInt8):(decide (a<=b)||decide (b<=a))=true:=by
 rcases List.le_total a b with h|h<;>simp[h]
theorem adV{zs ks rs:List ByteArray}(hp:zs.Perm ks)(hr:rs.Perm ks)(hs:(rs.map λz=>z.data.toList).Pairwise λa b=>decide (a<=b)=true):mU zs=rs:=by
 have h1:Bw zs=rs.map λz=>z.data.toList:=by
  unfold Bw;refine List.Perm.eq_of_pairwise (le:=λa b=>decide (a<=b)=true) (λa b _ _ h1 h2=>?_) (NP (λa b c h1 h2=>?_) adU _) hs (((wN _ _).trans (hp.map _)).trans (hr.map _).symm)
  ·exact List.le_antisymm (gQ h1) (gQ h2)
  ·exact dZ (List.le_trans (gQ h1) (gQ h2))
 unfold mU;rw[h1,uN];exact(ES λz _=>rfl).trans (List.map_id _)
def mV(l:List Nat):ByteArray:=⟨⟨l.map UInt8.ofNat⟩⟩
def sU:List ByteArray:=[mV [101,97,99,104],mV [117,110,108,105,107,101],mV [97,112,97,114,116],mV [110,111,116],mV [99,111,110,110,101,99,116,101,100],mV [108,111,111,112],mV [103,105,118,101,110],mV [102,105,108,108,101,100],mV [115,116,101,112,115]]
def uI:List ByteArray:=[mV [97,112,97,114,116],mV [99,111,110,110,101,99,116,101,100],mV [101,97,99,104],mV [102,105,108,108,101,100],mV [103,105,118,101,110],mV [108,111,111,112],mV [110,111,116],mV [115,116,101,112,115],mV [117,110,108,105,107,101]]
theorem adW:uI.Perm sU:=by
 unfold uI sU;decide
theorem adX:(uI.map λz=>z.data.toList).Pairwise λa b=>decide (a<=b)=true:=by
 unfold uI;decide
theorem adY:sU.Nodup:=by
 unfold sU;decide
theorem adZ{h:IH}{b m clock:Nat}{es:List MapEntry}(hb:h.get b=some (.cells [.map (some m)]))(hbn:b<h.next)(hmn:m<h.next)(hm:h.get m=some (.map es clock))(hkeys:es.map (·.key)=sU.map .string)(hborn:es.map (·.born)=List.range 9)(hc:8<clock):
 CALL Tryz.prog ⟨.func 252,[.func (.func 288) ⟨[]⟩ ⟨[ptr' b]⟩],[],none⟩ h (λr pm h2=>r=.ok (.slice (some ⟨h.next,0,some 1⟩) 9 9)/\pm=none/\h2=h.new (.cells (uI.map .string))):=by
 let d:Wd:=⟨⟨h.t,h.next,h.next⟩,λi=>i<h.next,λi hi=>hi⟩
 let ai:List (ByteArray×Value):=sU.zip (es.map (·.val))
 have hlen:es.length=9:=by have:=congrArg List.length hborn;simpa using this
 have hent:es.map (λe=>(e.key,e.val))=ai.map λp=>(fM p.1,p.2):=by
  have h1:es.map (λe=>(e.key,e.val))=(es.map (·.key)).zip (es.map (·.val)):=by rw[List.zip_map']
  rw[h1,hkeys];show(sU.map Value.string).zip (es.map (·.val))=(sU.zip (es.map (·.val))).map _;rw[List.zip_map_left];exact ES λp _=>rfl
 have hk1:ai.map (·.1)=sU:=List.map_fst_zip (by rw[bU,hlen];exact bP _);have hmap:xN fM ai es clock:=⟨hent,λe he=>by
  have:e.born∈es.map (·.born):=eG.2 ⟨e,he,rfl⟩;rw[hborn,tN]at this;omega,by rw[hborn];exact List.nodup_range,by rw[hk1];exact adY⟩
 have hF:∀f∈[eB b 0 [.map (some m)],ru fM m ai],f.p d:=by
  intro f hf;rcases dD.1 hf with rfl|hf
  ·exact⟨_,⟨hbn,.inl hb⟩,λj u hj=>by rw[fw];exact hj⟩
  ·rw[bH.1 hf];exact⟨hmn,es,clock,hm,hmap⟩
 have st:St [] d [] [eB b 0 [.map (some m)],ru fM m ai] d:=⟨⟨bP _,λ_ _ _=>rfl,λ_ _=>rfl⟩,Wd.Le.refl d,λi hi hz=>.inl hz,⟨[],rfl,tT,by simp⟩,hF⟩
 refine .cut (uI.map .string) 9 1 (by rfl) (by simp[uI]) (.inr rfl) _ (adM (adJ (b:=b) (bm:=m) (ai:=ai)) (λxs hx=>by have:=hx.length_eq;rw[hk1]at this;rw[this];exact⟨by decide,by decide⟩) [] d st) rfl ?_ ⟨rfl,rfl,rfl⟩;rintro r pm h' ⟨rfl,w',y,rfl,s,rfl,hy⟩;have hlow:=s.agree.low (bP _) (by simp);rw[hk1]at hy;have hsb:=adV hy adW adX;obtain⟨S,⟨S1,S2,q1,q2,e⟩,h2,h3⟩:=s.own;have hl:y.xs.length=(mU y.xs).length:=(Hr _).symm;rw[hl]at q1;obtain⟨c,cells,e1,e2,e3,e4,e5⟩:=RY q1 (by rw[hsb];decide);rw[hsb]at e1 e4 e5;subst e2;refine⟨rfl,hlow,c,0,9,?_,?_,(λh=>by cases h),?_⟩
 ·show iD.ok (gv aR.n y.c y.xs.length)=_;rw[hl,hsb,e1];rfl
 ·rcases(h3 c (by rw[e];simp)).1 with q|q
  ·exact q
  ·cases q
 ·have hcells:cells=uI.map .string:=by
   apply ku;intro j;by_cases hj:j<uI.length
   ·obtain⟨_,u1,_⟩:=e5 j _ (cz hj);have:=u1 0 _ rfl;rw[fo,cz hj];simpa[aR]using this
   ·rw[iB (by rw[e4];simpa[aR]using hj),iB (by rw[bU];omega)]
  unfold IH.nO;simp only[e3,hcells,nP,om,yH];rw[if_pos (by simp),bK]
noncomputable def Iu(es:List MapEntry)(clock:Nat):Bool:=mi 5 (.agg ⟨sU.map .string⟩) (.agg ⟨jP (λe=>e.key) es⟩)&&(mi 5 (.agg ⟨(List.range 9).map λi=>.int .i64 (.ofNat i)⟩) (.agg ⟨jP (λe=>.int .i64 (.ofNat e.born)) es⟩)&&Nat.blt 8 clock)
noncomputable def ML:dN->IH->Option (Value×IH):=λq h=>
 match q with
 |⟨.func f,[.func (.func g) ⟨[]⟩ ⟨[.pointer (some ⟨b,o,none⟩)]⟩],[],none⟩=>cond (Nat.beq f 252&&(Nat.beq g 288&&(Nat.beq o 0&&Nat.blt b h.next))) (match h.get b with
  |some (.cells [.map (some m)])=>cond (Nat.blt m h.next) (match h.get m with
   |some (.map es clock)=>cond (Iu es clock) (some (.slice (some ⟨h.next,0,some 1⟩) 9 9,h.new (.cells (uI.map .string)))) none
   |_=>none) none
  |_=>none) none
 |_=>none
theorem ad1{es:List MapEntry}{clock:Nat}(h:Iu es clock=true):es.map (·.key)=sU.map .string/\es.map (·.born)=List.range 9/\8<clock:=by
 unfold Iu at h;simp only[gG]at h;obtain⟨h1,h2,h3⟩:=h;have e1:=uj _ _ _ h1;have e2:=uj _ _ _ h2;injection e1 with e1;injection e1 with e1;injection e2 with e2;injection e2 with e2;rw[qO]at e1 e2;refine⟨e1.symm,?_,jN h3⟩;have:=congrArg (List.map λv:Value=>match v with| .int _ n=>n.toNat|_=>0) e2;rw[uN,uN]at this;have h4:(List.range 9).map (λi:Nat=>i)=es.map (·.born):=this;rw[<- h4,List.map_id']
theorem ad3{q:dN}{h:IH}{v:Value}{h':IH}(hk:ML q h=some (v,h')):CALL Tryz.prog q h (λr pm h2=>r=.ok v/\pm=none/\h2=h'):=by
 unfold ML at hk;split at hk
 ·rename_i f g b o;cases hcd:(Nat.beq f 252&&(Nat.beq g 288&&(Nat.beq o 0&&Nat.blt b h.next)))with
  |false=>rw[hcd]at hk;cases hk
  |true=>
   rw[hcd]at hk;simp only[gG]at hcd;obtain⟨h1,h2,h3,h4⟩:=hcd;have h1:=iU h1;have h2:=iU h2;have h3:=iU h3;have h4:b<h.next:=jN h4
   subst h1 h2 h3;simp only[cond_true]at hk;split at hk
   ·rename_i m hb;cases hcm:Nat.blt m h.next with
    |false=>rw[hcm]at hk;cases hk
    |true=>
     rw[hcm]at hk;simp only[cond_true]at hk;split at hk
     ·rename_i es clock hm;cases hf:Iu es clock with
      |false=>rw[hf]at hk;cases hk
      |true=>
       rw[hf]at hk;simp only[cond_true,aA,bZ]at hk;obtain⟨rfl,rfl⟩:=hk;obtain⟨e1,e2,e3⟩:=ad1 hf;exact adZ hb h4 (jN hcm) hm e1 e2 e3
     ·cases hk
   ·cases hk
 ·cases hk
noncomputable def Et:Nat->Option (dN->IH->Option (Value×IH)):=λf=>cond (Nat.beq f 252) (some ML) (MK f)
theorem TS{f:Nat}{g:dN->IH->Option (Value×IH)}(hm:Et f=some g){q:dN}{h:IH}{v:Value}{h':IH}(ht:g q h=some (v,h')):CALL Tryz.prog q h (λr pm h2=>r=.ok v/\pm=none/\h2=h'):=by
 simp only[Et]at hm;cases h1:Nat.beq f 252 with
 |true=>rw[h1]at hm;cases hm;exact ad3 ht
 |false=>rw[h1]at hm;exact adT hm ht
noncomputable def TT:Env:=nu Tryz.prog (FX 254 301) Et
theorem ad4:vF TT:=xq _ _ _ (by
 intro f q h v h' hm _ _;cases e:Et f with
 |none=>rw[e]at hm;cases hm
 |some g=>rw[e]at hm;exact TS e hm)
