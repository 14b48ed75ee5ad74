/- Part. -/
import Derived.Test.YtignbinlipkmfaaGreatDoorChecked
import Derived.Test.YtignbinlipkmfaaGreatDoorLibQG
set_option linter.all false
namespace Go.Proofs.YtignbinlipkmfaaGreatDoor
open Go.Ideal
def aR(l:ae Nat):ah:=.string ⟨⟨l.map UInt8.ofNat⟩⟩
def follows:Tryz.prog.follows .mixedOrders=true:=qk
def globals:Tryz.prog.globals.size=6:=qk
def aaA{k:Nat}(h3:(Tryz.prog.funcs[k]?).map (λf=>(f.body.isSome&&!(f.name== "runtime.NumGoroutine")))=some true):∃fn body,Tryz.prog.funcs[k]? =some fn/\fn.body=some body/\fn.name≠ "runtime.NumGoroutine" :=by
 cases e:Tryz.prog.funcs[k]? with
 |none=>rw[e]at h3;cases h3
 |some fn=>
  rw[e]at h3;have h3:=Option.some.inj h3;rw[dG]at h3;obtain⟨body,hb⟩:=Dn.1 h3.1;exact⟨fn,body,rfl,hb,by simpa using h3.2⟩
variable{h h':IH}{v:ah}{q:aX}
def apd(hm:KQ 297 q h=some (v,h')):CALL Tryz.prog q h (λr pm h2=>r=.ok v/\pm=none/\h2=h'):=by
 obtain⟨fn,body,h1,h2,h3⟩:=aaA (k:=297) qk;exact ahN h1 h2 h3 (λs c w=>Any.strings_IndexByte Tryz.lays137 s c w) hm
def ape(hm:KS 317 q h=some (v,h')):CALL Tryz.prog q h (λr pm h2=>r=.ok v/\pm=none/\h2=h'):=by
 obtain⟨fn,body,h1,h2,h3⟩:=aaA (k:=317) qk;exact ahQ h1 h2 h3 (λs n hl hn w=>(Any.internal_strconv_Atoi Tryz.lays244 s n hl hn w).mono λe w' ⟨he,t,hw⟩=>⟨he,by rw[hw];exact ahO w _ t⟩) hm
noncomputable def Si:Nat->aj (aX->IH->aj (ah×IH)):=λf=>cond (Nat.beq f 297) (some (KQ 297)) (cond (Nat.beq f 317) (some (KS 317)) none)
variable{f:Nat}{g:aX->IH->aj (ah×IH)}
def apf(hm:Si f=some g){q:aX}{h:IH}{v:ah}{h':IH}(ht:g q h=some (v,h')):CALL Tryz.prog q h (λr pm h2=>r=.ok v/\pm=none/\h2=h'):=by
 simp only[Si]at hm;cases h1:Nat.beq f 297 with
 |true=>rw[h1]at hm;cases hm;exact apd ht
 |false=>
  rw[h1]at hm;cases h2:Nat.beq f 317 with
  |true=>rw[h2]at hm;cases hm;exact ape ht
  |false=>rw[h2]at hm;cases hm
open Go.Ideal Kd
def apg(a b:ae UInt8):(decide (a<=b)||decide (b<=a))=true:=by
 rcases List.le_total a b with h|h<;>simp[h]
def aph{zs ks rs:ae ByteArray}(hp:zs.Perm ks)(hr:rs.Perm ks)(hs:(rs.map λz=>z.data.toList).Pairwise λa b=>decide (a<=b)=true):oQ zs=rs:=by
 have h1:EA zs=rs.map λz=>z.data.toList:=by
  unfold EA;refine List.Perm.eq_of_pairwise (le:=λa b=>decide (a<=b)=true) (λa b _ _ h1 h2=>?_) (SI (λa b c h1 h2=>?_) apg _) hs (((zT _ _).trans (hp.map _)).trans (hr.map _).symm)
  .exact List.le_antisymm (jT h1) (jT h2)
  .exact fo (List.le_trans (jT h1) (jT h2))
 unfold oQ;rw[h1,qB];exact(vF λz _=>rfl).trans (Fy _)
def o9(l:ae Nat):ByteArray:=⟨⟨l.map UInt8.ofNat⟩⟩
def wQ:ae ByteArray:=[o9 [101,97,99,104],o9 [117,110,108,105,107,101],o9 [97,112,97,114,116],o9 [110,111,116],o9 [99,111,110,110,101,99,116,101,100],o9 [108,111,111,112],o9 [103,105,118,101,110],o9 [102,105,108,108,101,100],o9 [115,116,101,112,115]]
def xZ:ae ByteArray:=[o9 [97,112,97,114,116],o9 [99,111,110,110,101,99,116,101,100],o9 [101,97,99,104],o9 [102,105,108,108,101,100],o9 [103,105,118,101,110],o9 [108,111,111,112],o9 [110,111,116],o9 [115,116,101,112,115],o9 [117,110,108,105,107,101]]
def api:xZ.Perm wQ:=by
 unfold xZ wQ;decide
def apj:(xZ.map λz=>z.data.toList).Pairwise λa b=>decide (a<=b)=true:=by
 unfold xZ;decide
def apk:wQ.Nodup:=by
 unfold wQ;decide
variable{m clock:Nat}{es:ae MapEntry}
def apl{b:Nat}(hb:h.get b=some (.cells [.map (some m)]))(hbn:b<h.next)(hmn:m<h.next)(hm:h.get m=some (.map es clock))(hkeys:es.map (·.key)=wQ.map .string)(hborn:es.map (·.born)=List.range 9)(hc:8<clock):
 CALL Tryz.prog ⟨.func 325,[.func (.func 346) ⟨[]⟩ ⟨[ptr' b]⟩],[],none⟩ h (λr pm h2=>r=.ok (.slice (some ⟨h.next,0,some 1⟩) 9 9)/\pm=none/\h2=h.new (.cells (xZ.map .string))):=by
 let d:Wd:=⟨⟨h.t,h.next,h.next⟩,λi=>i<h.next,λi hi=>hi⟩
 let ay:ae (ByteArray×ah):=wQ.zip (es.map (·.val))
 have hlen:es.length=9:=by have:=congrArg List.length hborn;simpa using this
 have hent:es.map (λe=>(e.key,e.val))=ay.map λp=>(eP p.1,p.2):=by
  have h1:es.map (λe=>(e.key,e.val))=(es.map (·.key)).zip (es.map (·.val)):=by rw[List.zip_map']
  rw[h1,hkeys];show(wQ.map Value.string).zip (es.map (·.val))=(wQ.zip (es.map (·.val))).map _;rw[List.zip_map_left];exact vF λp _=>rfl
 have hk1:ay.map (·.1)=wQ:=List.map_fst_zip (by rw[aS,hlen];exact bz _);have hmap:AL eP ay es clock:=⟨hent,λe he=>by
  have:e.born∈es.map (·.born):=cZ.2 ⟨e,he,rfl⟩;rw[hborn,nD]at this;omega,by rw[hborn];exact List.nodup_range,by rw[hk1];exact apk⟩
 have hF:∀f∈[dx b 0 [.map (some m)],uK eP m ay],f.p d:=by
  intro f hf;rcases bN.1 hf with rfl|hf
  .exact⟨_,⟨hbn,.inl hb⟩,λj u hj=>by rw[eB];exact hj⟩
  .rw[bF.1 hf];exact⟨hmn,es,clock,hm,hmap⟩
 have st:St [] d [] [dx b 0 [.map (some m)],uK eP m ay] d:=⟨⟨bz _,λ_ _ _=>rfl,λ_ _=>rfl⟩,Wd.Le.refl d,λi hi hz=>.inl hz,⟨[],rfl,wW,qe⟩,hF⟩
 refine .cut (xZ.map .string) 9 1 rL (by simp[xZ]) (.inr rfl) _ (apc (ao9 (b:=b) (bm:=m) (ay:=ay)) (λxs hx=>by have:=hx.length_eq;rw[hk1]at this;rw[this];exact⟨qv,qv⟩) [] d st) rfl ?_ ⟨rfl,rfl,rfl⟩;rintro r pm h' ⟨rfl,w',y,rfl,s,rfl,hy⟩;have hlow:=s.agree.low (bz _) qe;rw[hk1]at hy;have hsb:=aph hy api apj;obtain⟨S,⟨S1,S2,q1,q2,e⟩,h2,h3⟩:=s.own;have hl:y.xs.length=(oQ y.xs).length:=(KY _).symm;rw[hl]at q1;obtain⟨c,cells,e1,e2,e3,e4,e5⟩:=Xa q1 (by rw[hsb];decide);rw[hsb]at e1 e4 e5;subst e2;refine⟨rfl,hlow,c,0,9,?_,?_,(λh=>by cases h),?_⟩
 .show iL.ok (gv dF.n y.c y.xs.length)=_;rw[hl,hsb,e1];rfl
 .rcases(h3 c tE).1 with q|q
  .exact q
  .cases q
 .have hcells:cells=xZ.map .string:=by
   apply iK;intro j;by_cases hj:j<xZ.length
   .obtain⟨_,u1,_⟩:=e5 j _ (bH hj);have:=u1 0 _ rfl;rw[bU,bH hj];simpa[dF]using this
   .rw[dY (by rw[e4];simpa[dF]using hj),dY tb]
  unfold IH.nR;simp only[e3,hcells,oH,pE,vI];rw[if_pos qe,eH]
noncomputable def MJ(es:ae MapEntry)(clock:Nat):Bool:=nH 5 (.agg ⟨wQ.map .string⟩) (.agg ⟨lq (λe=>e.key) es⟩)&&(nH 5 (.agg ⟨(List.range 9).map λi=>.int .i64 (.ofNat i)⟩) (.agg ⟨lq (λe=>.int .i64 (.ofNat e.born)) es⟩)&&Nat.blt 8 clock)
noncomputable def Sj:aX->IH->aj (ah×IH):=λq h=>
 match q with
 |⟨.func f,[.func (.func g) ⟨[]⟩ ⟨[.pointer (some ⟨b,o,none⟩)]⟩],[],none⟩=>cond (Nat.beq f 325&&(Nat.beq g 346&&(Nat.beq o 0&&Nat.blt b h.next))) (match h.get b with
  |some (.cells [.map (some m)])=>cond (Nat.blt m h.next) (match h.get m with
   |some (.map es clock)=>cond (MJ es clock) (some (.slice (some ⟨h.next,0,some 1⟩) 9 9,h.new (.cells (xZ.map .string)))) none
   |_=>none) none
  |_=>none) none
 |_=>none
def apm(h:MJ es clock=true):es.map (·.key)=wQ.map .string/\es.map (·.born)=List.range 9/\8<clock:=by
 unfold MJ at h;simp only[dG]at h;obtain⟨h1,h2,h3⟩:=h;have e1:=xu _ _ _ h1;have e2:=xu _ _ _ h2;injection e1 with e1;injection e1 with e1;injection e2 with e2;injection e2 with e2;rw[vN]at e1 e2;refine⟨e1.symm,?_,lg h3⟩;have:=congrArg (List.map λv:ah=>match v with| .int _ n=>n.toNat|_=>0) e2;rw[qB,qB]at this;have h4:(List.range 9).map (λi:Nat=>i)=es.map (·.born):=this;rw[<- h4,List.map_id']
def apn(hk:Sj q h=some (v,h')):CALL Tryz.prog q h (λr pm h2=>r=.ok v/\pm=none/\h2=h'):=by
 unfold Sj at hk;split at hk
 .rename_i f g b o;cases hcd:(Nat.beq f 325&&(Nat.beq g 346&&(Nat.beq o 0&&Nat.blt b h.next)))with
  |false=>rw[hcd]at hk;cases hk
  |true=>
   rw[hcd]at hk;simp only[dG]at hcd;obtain⟨h1,h2,h3,h4⟩:=hcd;have h1:=jg h1;have h2:=jg h2;have h3:=jg h3;have h4:b<h.next:=lg h4
   subst h1 h2 h3;simp only[cond_true]at hk;split at hk
   .rename_i m hb;cases hcm:Nat.blt m h.next with
    |false=>rw[hcm]at hk;cases hk
    |true=>
     rw[hcm]at hk;simp only[cond_true]at hk;split at hk
     .rename_i es clock hm;cases hf:MJ es clock with
      |false=>rw[hf]at hk;cases hk
      |true=>
       rw[hf]at hk;simp only[cond_true,aI,cB]at hk;obtain⟨rfl,rfl⟩:=hk;obtain⟨e1,e2,e3⟩:=apm hf;exact apl hb h4 (lg hcm) hm e1 e2 e3
     .cases hk
   .cases hk
 .cases hk
noncomputable def vD:Nat->aj (aX->IH->aj (ah×IH)):=λf=>cond (Nat.beq f 325) (some Sj) (Si f)
def zG(hm:vD f=some g){q:aX}{h:IH}{v:ah}{h':IH}(ht:g q h=some (v,h')):CALL Tryz.prog q h (λr pm h2=>r=.ok v/\pm=none/\h2=h'):=by
 simp only[vD]at hm;cases h1:Nat.beq f 325 with
 |true=>rw[h1]at hm;cases hm;exact apn ht
 |false=>rw[h1]at hm;exact apf hm ht
noncomputable def De:Env:=lX Tryz.prog (xz 231 291) vD
def Fg:qH De:=rT _ _ _ (by
 intro f q h v h' hm _ _;cases e:vD f with
 |none=>rw[e]at hm;cases hm
 |some g=>rw[e]at hm;exact zG e hm)
noncomputable def qZ(m low:Nat)(l:ae (Nat×bG))(n:Nat)(v:ah):BR:=λr pm h=>
 match pm with
 |some _=>false
 |none=>match r with
  | .ok v'=>nH 50 v v'&&(Nat.beq h.next n&&(Nat.beq h.low low&&(Eb l h&&zW (λa=>zW (λb=>cond (Nat.ble m (a*64+b)) true (cond (Ho (a*64+b) l) true (h.get (a*64+b)).isNone)) (List.range 64)) (List.range (m/64+1)))))
  | .fD _=>false
def ug{low:Nat}{l:ae (Nat×bG)}{n:Nat}{r:iL}{pm:aj FrameMode}(hl:qZ m low l n v r pm h=true):K7 m low l n v r pm h=true:=by
 unfold qZ at hl;unfold K7;cases pm with
 |some _=>cases hl
 |none=>
  cases r with
  |fD _=>cases hl
  |ok v'=>
   dsimp only at hl⊢;simp only[dG]at hl⊢;obtain⟨h1,h2,h3,h4,h5⟩:=hl;refine⟨h1,h2,h3,h4,?_⟩;rw[DF,iE]at h5⊢;intro i hi;have hi:=nD.1 hi;have h6:=h5 (i/64) (nD.2 (Nat.lt_succ_of_le (Nat.div_le_div_right (Nat.le_of_lt hi))));rw[DF,iE]at h6;have h7:=h6 (i%64) (nD.2 (zM _ p0));rw[show i/64*64+i%64=i by omega]at h7;have h8:Nat.ble m i=false:=by
    cases e:Nat.ble m i with
    |false=>rfl
    |true=>have:=lg e;omega
   rw[h8]at h7;exact h7
