/- Part. -/
import Derived.Test.YtignbinlipkmfaaGreatDoorChecked
import Derived.Test.YtignbinlipkmfaaGreatDoorLibQK
set_option linter.all false
namespace Go.Proofs.YtignbinlipkmfaaGreatDoor
open Go.Ideal
def aW(l:ae Nat):ah:=.string ⟨⟨l.map UInt8.ofNat⟩⟩
def follows:Tryz.prog.follows .mixedOrders=true:=tv
def globals:Tryz.prog.globals.size=6:=tv
def Zd{k:Nat}(h3:(Tryz.prog.funcs[k]?).map (λf=>(f.body.isSome&&!(f.name== "runtime.NumGoroutine")))=some true):∃fn body,Tryz.prog.funcs[k]? =some fn/\fn.body=some body/\fn.name≠ "runtime.NumGoroutine" :=by
 cases e:Tryz.prog.funcs[k]? with
 |none=>rw[e]at h3;cases h3
 |some fn=>
  rw[e]at h3;have h3:=Option.some.inj h3;rw[dI]at h3;obtain⟨body,hb⟩:=Rw.1 h3.1;exact⟨fn,body,rfl,hb,by simpa using h3.2⟩
variable{h h':IH}{v:ah}{q:bA}
def amz(hm:Kc 297 q h=some (v,h')):CALL Tryz.prog q h (λr pm h2=>r=.ok v/\pm=none/\h2=h'):=by
 obtain⟨fn,body,h1,h2,h3⟩:=Zd (k:=297) tv;exact agF h1 h2 h3 (λs c w=>Any.strings_IndexByte Tryz.lays137 s c w) hm
def amA(hm:Ke 317 q h=some (v,h')):CALL Tryz.prog q h (λr pm h2=>r=.ok v/\pm=none/\h2=h'):=by
 obtain⟨fn,body,h1,h2,h3⟩:=Zd (k:=317) tv;exact agI h1 h2 h3 (λs n hl hn w=>(Any.internal_strconv_Atoi Tryz.lays244 s n hl hn w).mono λe w' ⟨he,t,hw⟩=>⟨he,by rw[hw];exact agG w _ t⟩) hm
noncomputable def Ri:Nat->ak (bA->IH->ak (ah×IH)):=λf=>cond (Nat.beq f 297) (some (Kc 297)) (cond (Nat.beq f 317) (some (Ke 317)) none)
variable{f:Nat}{g:bA->IH->ak (ah×IH)}
def amB(hm:Ri f=some g){q:bA}{h:IH}{v:ah}{h':IH}(ht:g q h=some (v,h')):CALL Tryz.prog q h (λr pm h2=>r=.ok v/\pm=none/\h2=h'):=by
 simp only[Ri]at hm;cases h1:Nat.beq f 297 with
 |true=>rw[h1]at hm;cases hm;exact amz ht
 |false=>
  rw[h1]at hm;cases h2:Nat.beq f 317 with
  |true=>rw[h2]at hm;cases hm;exact amA ht
  |false=>rw[h2]at hm;cases hm
open Go.Ideal Kd
def amC(a b:ae UInt8):(decide (a<=b)||decide (b<=a))=true:=by
 rcases List.le_total a b with h|h<;>simp[h]
def amD{zs ks rs:ae ByteArray}(hp:zs.Perm ks)(hr:rs.Perm ks)(hs:(rs.map λz=>z.data.toList).Pairwise λa b=>decide (a<=b)=true):o9 zs=rs:=by
 have h1:DT zs=rs.map λz=>z.data.toList:=by
  unfold DT;refine List.Perm.eq_of_pairwise (le:=λa b=>decide (a<=b)=true) (λa b _ _ h1 h2=>?_) (RN (λa b c h1 h2=>?_) amC _) hs (((zA _ _).trans (hp.map _)).trans (hr.map _).symm)
  .exact List.le_antisymm (gT h1) (gT h2)
  .exact eB (List.le_trans (gT h1) (gT h2))
 unfold o9;rw[h1,uy];exact(wY λz _=>rfl).trans (List.map_id _)
def pF(l:ae Nat):ByteArray:=⟨⟨l.map UInt8.ofNat⟩⟩
def wT:ae ByteArray:=[pF [101,97,99,104],pF [117,110,108,105,107,101],pF [97,112,97,114,116],pF [110,111,116],pF [99,111,110,110,101,99,116,101,100],pF [108,111,111,112],pF [103,105,118,101,110],pF [102,105,108,108,101,100],pF [115,116,101,112,115]]
def xU:ae ByteArray:=[pF [97,112,97,114,116],pF [99,111,110,110,101,99,116,101,100],pF [101,97,99,104],pF [102,105,108,108,101,100],pF [103,105,118,101,110],pF [108,111,111,112],pF [110,111,116],pF [115,116,101,112,115],pF [117,110,108,105,107,101]]
def amE:xU.Perm wT:=by
 unfold xU wT;decide
def amF:(xU.map λz=>z.data.toList).Pairwise λa b=>decide (a<=b)=true:=by
 unfold xU;decide
def amG:wT.Nodup:=by
 unfold wT;decide
variable{m clock:Nat}{es:ae MapEntry}
def amH{b:Nat}(hb:h.get b=some (.cells [.map (some m)]))(hbn:b<h.next)(hmn:m<h.next)(hm:h.get m=some (.map es clock))(hkeys:es.map (·.key)=wT.map .string)(hborn:es.map (·.born)=List.range 9)(hc:8<clock):
 CALL Tryz.prog ⟨.func 325,[.func (.func 346) ⟨[]⟩ ⟨[ptr' b]⟩],[],none⟩ h (λr pm h2=>r=.ok (.slice (some ⟨h.next,0,some 1⟩) 9 9)/\pm=none/\h2=h.new (.cells (xU.map .string))):=by
 let d:Wd:=⟨⟨h.t,h.next,h.next⟩,λi=>i<h.next,λi hi=>hi⟩
 let az:ae (ByteArray×ah):=wT.zip (es.map (·.val))
 have hlen:es.length=9:=by have:=congrArg List.length hborn;simpa using this
 have hent:es.map (λe=>(e.key,e.val))=az.map λp=>(gJ p.1,p.2):=by
  have h1:es.map (λe=>(e.key,e.val))=(es.map (·.key)).zip (es.map (·.val)):=by rw[List.zip_map']
  rw[h1,hkeys];show(wT.map Value.string).zip (es.map (·.val))=(wT.zip (es.map (·.val))).map _;rw[List.zip_map_left];exact wY λp _=>rfl
 have hk1:az.map (·.1)=wT:=List.map_fst_zip (by rw[bZ,hlen];exact bQ _);have hmap:Ab gJ az es clock:=⟨hent,λe he=>by
  have:e.born∈es.map (·.born):=eF.2 ⟨e,he,rfl⟩;rw[hborn,nH]at this;omega,by rw[hborn];exact List.nodup_range,by rw[hk1];exact amG⟩
 have hF:∀f∈[eZ b 0 [.map (some m)],uP gJ m az],f.p d:=by
  intro f hf;rcases bT.1 hf with rfl|hf
  .exact⟨_,⟨hbn,.inl hb⟩,λj u hj=>by rw[fq];exact hj⟩
  .rw[bK.1 hf];exact⟨hmn,es,clock,hm,hmap⟩
 have st:St [] d [] [eZ b 0 [.map (some m)],uP gJ m az] d:=⟨⟨bQ _,λ_ _ _=>rfl,λ_ _=>rfl⟩,Wd.Le.refl d,λi hi hz=>.inl hz,⟨[],rfl,w9,tt⟩,hF⟩
 refine .cut (xU.map .string) 9 1 tw (by simp[xU]) (.inr rfl) _ (amy (amv (b:=b) (bm:=m) (az:=az)) (λxs hx=>by have:=hx.length_eq;rw[hk1]at this;rw[this];exact⟨tA,tA⟩) [] d st) rfl ?_ ⟨rfl,rfl,rfl⟩;rintro r pm h' ⟨rfl,w',y,rfl,s,rfl,hy⟩;have hlow:=s.agree.low (bQ _) tt;rw[hk1]at hy;have hsb:=amD hy amE amF;obtain⟨S,⟨S1,S2,q1,q2,e⟩,h2,h3⟩:=s.own;have hl:y.xs.length=(o9 y.xs).length:=(Kg _).symm;rw[hl]at q1;obtain⟨c,cells,e1,e2,e3,e4,e5⟩:=VN q1 (by rw[hsb];decide);rw[hsb]at e1 e4 e5;subst e2;refine⟨rfl,hlow,c,0,9,?_,?_,(λh=>by cases h),?_⟩
 .show ji.ok (gv aV.n y.c y.xs.length)=_;rw[hl,hsb,e1];rfl
 .rcases(h3 c zj).1 with q|q
  .exact q
  .cases q
 .have hcells:cells=xU.map .string:=by
   apply jW;intro j;by_cases hj:j<xU.length
   .obtain⟨_,u1,_⟩:=e5 j _ (bX hj);have:=u1 0 _ rfl;rw[dN,bX hj];simpa[aV]using this
   .rw[iq (by rw[e4];simpa[aV]using hj),iq (by rw[bZ];omega)]
  unfold IH.oO;simp only[e3,hcells,qw,qD,AY];rw[if_pos tt,bM]
noncomputable def LU(es:ae MapEntry)(clock:Nat):Bool:=nK 5 (.agg ⟨wT.map .string⟩) (.agg ⟨lS (λe=>e.key) es⟩)&&(nK 5 (.agg ⟨(List.range 9).map λi=>.int .i64 (.ofNat i)⟩) (.agg ⟨lS (λe=>.int .i64 (.ofNat e.born)) es⟩)&&Nat.blt 8 clock)
noncomputable def Rj:bA->IH->ak (ah×IH):=λq h=>
 match q with
 |⟨.func f,[.func (.func g) ⟨[]⟩ ⟨[.pointer (some ⟨b,o,none⟩)]⟩],[],none⟩=>cond (Nat.beq f 325&&(Nat.beq g 346&&(Nat.beq o 0&&Nat.blt b h.next))) (match h.get b with
  |some (.cells [.map (some m)])=>cond (Nat.blt m h.next) (match h.get m with
   |some (.map es clock)=>cond (LU es clock) (some (.slice (some ⟨h.next,0,some 1⟩) 9 9,h.new (.cells (xU.map .string)))) none
   |_=>none) none
  |_=>none) none
 |_=>none
def amI(h:LU es clock=true):es.map (·.key)=wT.map .string/\es.map (·.born)=List.range 9/\8<clock:=by
 unfold LU at h;simp only[dI]at h;obtain⟨h1,h2,h3⟩:=h;have e1:=xz _ _ _ h1;have e2:=xz _ _ _ h2;injection e1 with e1;injection e1 with e1;injection e2 with e2;injection e2 with e2;rw[vU]at e1 e2;refine⟨e1.symm,?_,lQ h3⟩;have:=congrArg (List.map λv:ah=>match v with| .int _ n=>n.toNat|_=>0) e2;rw[uy,uy]at this;have h4:(List.range 9).map (λi:Nat=>i)=es.map (·.born):=this;rw[<- h4,List.map_id']
def amJ(hk:Rj q h=some (v,h')):CALL Tryz.prog q h (λr pm h2=>r=.ok v/\pm=none/\h2=h'):=by
 unfold Rj at hk;split at hk
 .rename_i f g b o;cases hcd:(Nat.beq f 325&&(Nat.beq g 346&&(Nat.beq o 0&&Nat.blt b h.next)))with
  |false=>rw[hcd]at hk;cases hk
  |true=>
   rw[hcd]at hk;simp only[dI]at hcd;obtain⟨h1,h2,h3,h4⟩:=hcd;have h1:=jG h1;have h2:=jG h2;have h3:=jG h3;have h4:b<h.next:=lQ h4
   subst h1 h2 h3;simp only[cond_true]at hk;split at hk
   .rename_i m hb;cases hcm:Nat.blt m h.next with
    |false=>rw[hcm]at hk;cases hk
    |true=>
     rw[hcm]at hk;simp only[cond_true]at hk;split at hk
     .rename_i es clock hm;cases hf:LU es clock with
      |false=>rw[hf]at hk;cases hk
      |true=>
       rw[hf]at hk;simp only[cond_true,aF,dx]at hk;obtain⟨rfl,rfl⟩:=hk;obtain⟨e1,e2,e3⟩:=amI hf;exact amH hb h4 (lQ hcm) hm e1 e2 e3
     .cases hk
   .cases hk
 .cases hk
noncomputable def vB:Nat->ak (bA->IH->ak (ah×IH)):=λf=>cond (Nat.beq f 325) (some Rj) (Ri f)
def zo(hm:vB f=some g){q:bA}{h:IH}{v:ah}{h':IH}(ht:g q h=some (v,h')):CALL Tryz.prog q h (λr pm h2=>r=.ok v/\pm=none/\h2=h'):=by
 simp only[vB]at hm;cases h1:Nat.beq f 325 with
 |true=>rw[h1]at hm;cases hm;exact amJ ht
 |false=>rw[h1]at hm;exact amB hm ht
noncomputable def Cv:Env:=mg Tryz.prog (xB 231 291) vB
def Ex:qG Cv:=rP _ _ _ (by
 intro f q h v h' hm _ _;cases e:vB f with
 |none=>rw[e]at hm;cases hm
 |some g=>rw[e]at hm;exact zo e hm)
noncomputable def qX(m low:Nat)(l:ae (Nat×bO))(n:Nat)(v:ah):BR:=λr pm h=>
 match pm with
 |some _=>false
 |none=>match r with
  | .ok v'=>nK 50 v v'&&(Nat.beq h.next n&&(Nat.beq h.low low&&(Dm l h&&zB (λa=>zB (λb=>cond (Nat.ble m (a*64+b)) true (cond (Gm (a*64+b) l) true (h.get (a*64+b)).isNone)) (List.range 64)) (List.range (m/64+1)))))
  | .fU _=>false
def ul{low:Nat}{l:ae (Nat×bO)}{n:Nat}{r:ji}{pm:ak FrameMode}(hl:qX m low l n v r pm h=true):Ki m low l n v r pm h=true:=by
 unfold qX at hl;unfold Ki;cases pm with
 |some _=>cases hl
 |none=>
  cases r with
  |fU _=>cases hl
  |ok v'=>
   dsimp only at hl⊢;simp only[dI]at hl⊢;obtain⟨h1,h2,h3,h4,h5⟩:=hl;refine⟨h1,h2,h3,h4,?_⟩;rw[CY,jL]at h5⊢;intro i hi;have hi:=nH.1 hi;have h6:=h5 (i/64) (nH.2 (Nat.lt_succ_of_le (Nat.div_le_div_right (Nat.le_of_lt hi))));rw[CY,jL]at h6;have h7:=h6 (i%64) (nH.2 (Nat.mod_lt _ tr));rw[show i/64*64+i%64=i by omega]at h7;have h8:Nat.ble m i=false:=by
    cases e:Nat.ble m i with
    |false=>rfl
    |true=>have:=lQ e;omega
   rw[h8]at h7;exact h7
