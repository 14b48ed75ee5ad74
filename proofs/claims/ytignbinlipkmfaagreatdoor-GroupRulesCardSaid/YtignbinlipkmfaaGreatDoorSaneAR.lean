/- Part. -/
import Derived.Test.YtignbinlipkmfaaGreatDoorChecked
import Derived.Test.YtignbinlipkmfaaGreatDoorLibQR
set_option linter.all false
namespace Go.Proofs.YtignbinlipkmfaaGreatDoor
open Go.Ideal
def dX(l:ae Nat):ah:=.string ⟨⟨l.map UInt8.ofNat⟩⟩
def follows:Tryz.prog.follows .mixedOrders=true:=th
def globals:Tryz.prog.globals.size=6:=th
def ad9{k:Nat}(h3:(Tryz.prog.funcs[k]?).map (λf=>(f.body.isSome&&!(f.name== "runtime.NumGoroutine")))=some true):∃fn body,Tryz.prog.funcs[k]? =some fn/\fn.body=some body/\fn.name≠ "runtime.NumGoroutine" :=by
 cases e:Tryz.prog.funcs[k]? with
 |none=>rw[e]at h3;cases h3
 |some fn=>
  rw[e]at h3;have h3:=Option.some.inj h3;rw[eU]at h3;obtain⟨body,hb⟩:=Fj.1 h3.1;exact⟨fn,body,rfl,hb,by simpa using h3.2⟩
variable{h h':IH}{v:ah}{q:bD}
def atY(hm:OB 297 q h=some (v,h')):CALL Tryz.prog q h (λr pm h2=>r=.ok v/\pm=none/\h2=h'):=by
 obtain⟨fn,body,h1,h2,h3⟩:=ad9 (k:=297) th;exact alf h1 h2 h3 (λs c w=>Any.strings_IndexByte Tryz.lays137 s c w) hm
def atZ(hm:OC 317 q h=some (v,h')):CALL Tryz.prog q h (λr pm h2=>r=.ok v/\pm=none/\h2=h'):=by
 obtain⟨fn,body,h1,h2,h3⟩:=ad9 (k:=317) th;exact ali h1 h2 h3 (λs n hl hn w=>(Any.internal_strconv_Atoi Tryz.lays244 s n hl hn w).mono λe w' ⟨he,t,hw⟩=>⟨he,by rw[hw];exact alg w _ t⟩) hm
noncomputable def Wn:Nat->ak (bD->IH->ak (ah×IH)):=λf=>cond (Nat.beq f 297) (some (OB 297)) (cond (Nat.beq f 317) (some (OC 317)) none)
variable{f:Nat}{g:bD->IH->ak (ah×IH)}
def at0(hm:Wn f=some g){q:bD}{h:IH}{v:ah}{h':IH}(ht:g q h=some (v,h')):CALL Tryz.prog q h (λr pm h2=>r=.ok v/\pm=none/\h2=h'):=by
 simp only[Wn]at hm;cases h1:Nat.beq f 297 with
 |true=>rw[h1]at hm;cases hm;exact atY ht
 |false=>
  rw[h1]at hm;cases h2:Nat.beq f 317 with
  |true=>rw[h2]at hm;cases hm;exact atZ ht
  |false=>rw[h2]at hm;cases hm
open Go.Ideal Kd
abbrev nI(n:Nat):ah:=.int .i64 (.ofNat n)
abbrev nS(a f n:Nat):ah:=.slice (some ⟨a,0,some f⟩) n n
abbrev nN:ah:=.slice none 0 0
def e6:Nat×aN:=(6,.cells [nN,nN])
def K8:Nat×aN:=(184,.cells [dX [97],nI 1,dX [98],nI 2])
def e220:Nat×aN:=(220,.cells [dX [114],dX [114,111,119,115],nI 1,nI 1,nN,nN,nI 0,nI 0,nI 0,nI 0,dX [],.int .i64 (.negSucc 0)])
def K9:Nat×aN:=(277,.cells [nI 0,nI 1])
def e296:Nat×aN:=(296,.cells [nS 303 1 1,nS 311 1 1])
def e303:Nat×aN:=(303,.cells [nI 1])
def e311:Nat×aN:=(311,.cells [nI 0])
def La:Nat×aN:=(351,.cells [nI 0])
def Lb:Nat×aN:=(354,.cells [nI 1])
def Lc:Nat×aN:=(356,.cells [nS 351 0 1,nS 354 0 1])
def Ld:Nat×aN:=(410,.cells [nI 0,nI 1])
def Lf:Nat×aN:=(414,.cells [nS 410 1 2])
def Lg:Nat×aN:=(464,.cells [nI 0])
def Lh:Nat×aN:=(468,.cells [nI 1])
def Li:Nat×aN:=(474,.cells [nS 464 1 1,nS 468 1 1])
def Lj:Nat×aN:=(536,.cells [nS 543 1 1,nS 551 1 1])
def Ll:Nat×aN:=(543,.cells [nI 1])
def Lm:Nat×aN:=(551,.cells [nI 0])
def Lp:Nat×aN:=(596,.cells [nI 0,nI 1])
def Lr:Nat×aN:=(602,.cells [nI 0,nI 1])
def Ls:Nat×aN:=(604,.cells [nS 596 1 2,nS 602 1 2])
def Lt:Nat×aN:=(644,.cells [nI 0,nI 1])
def Lu:Nat×aN:=(646,.cells [nS 644 0 2])
def Lv:Nat×aN:=(689,.cells [nI 0,nI 1])
def Lx:Nat×aN:=(690,.cells [nS 689 1 2])
def LA:Nat×aN:=(692,.cells [nS 356 1 2,nS 414 1 1,nS 474 1 2,nN,nS 536 0 2,nS 604 1 2,nS 646 1 1,nS 690 0 1])
def pQ:Nat×aN:=(964,.cells [nI 0,nI 1])
def pR:Nat×aN:=(970,.cells [nI 1,nI 0])
def pU:Nat×aN:=(974,.cells [nS 964 0 2,nS 970 0 2])
def pV:Nat×aN:=(1022,.cells [nI 0,nI 0])
def qJ:Nat×aN:=(1023,.cells [nS 974 1 2,nS 1022 1 2])
def HZ:Nat×aN:=(1024,.cells [nN,nN])
def LB:Nat×aN:=(1202,.cells [dX [97],nI 1,dX [98],nI 2])
def LC:Nat×aN:=(1238,.cells [dX [114],dX [114,111,119,115],nI 4,nI 1,nN,nN,nI 0,nI 0,nI 0,nI 0,dX [],.int .i64 (.negSucc 0)])
def LD:Nat×aN:=(1295,.cells [nI 0,nI 1])
def LF:Nat×aN:=(1314,.cells [nS 1321 1 1,nS 1329 1 1])
def LG:Nat×aN:=(1321,.cells [nI 1])
def LH:Nat×aN:=(1329,.cells [nI 0])
def LJ:Nat×aN:=(1369,.cells [nI 0])
def LK:Nat×aN:=(1372,.cells [nI 1])
def LM:Nat×aN:=(1374,.cells [nS 1369 0 1,nS 1372 0 1])
def LP:Nat×aN:=(1428,.cells [nI 0,nI 1])
def LQ:Nat×aN:=(1432,.cells [nS 1428 1 2])
def LU:Nat×aN:=(1482,.cells [nI 0])
def LV:Nat×aN:=(1486,.cells [nI 1])
def LW:Nat×aN:=(1492,.cells [nS 1482 1 1,nS 1486 1 1])
def LX:Nat×aN:=(1554,.cells [nS 1561 1 1,nS 1569 1 1])
def LY:Nat×aN:=(1561,.cells [nI 1])
def LZ:Nat×aN:=(1569,.cells [nI 0])
def L6:Nat×aN:=(1614,.cells [nI 0,nI 1])
def L8:Nat×aN:=(1620,.cells [nI 0,nI 1])
def L9:Nat×aN:=(1622,.cells [nS 1614 1 2,nS 1620 1 2])
def Ma:Nat×aN:=(1662,.cells [nI 0,nI 1])
def Mc:Nat×aN:=(1664,.cells [nS 1662 0 2])
def Md:Nat×aN:=(1707,.cells [nI 0,nI 1])
def Me:Nat×aN:=(1708,.cells [nS 1707 1 2])
def Mf:Nat×aN:=(1710,.cells [nS 1374 1 2,nS 1432 1 1,nS 1492 1 2,nN,nS 1554 0 2,nS 1622 1 2,nS 1664 1 1,nS 1708 0 1])
def xu:Nat×aN:=(1975,.cells [nI 0,nI 1])
def xy:Nat×aN:=(1976,.cells [nS 1975 0 2])
def xz:Nat×aN:=(2022,.cells [nI 0,nI 1])
def zU:Nat×aN:=(2023,.cells [nS 1976 0 1,nS 2022 1 2])
def Dk:Nat×aN:=(2024,.cells [nN,nN])
def aea:Nat×aN:=(2025,.cells [dX [],nI 0,nI 0,nI 0,nI 0,nN,nN,nN,nN,nN,nI 0,nI 0,nI 0,nN,nN,nN,nN])
def aeb:Nat×aN:=(2026,.cells [dX [],nI 0,nI 0,nI 0,nI 0,nN,nN,nN,nN,nN])
def Mg:Nat×aN:=(2228,.cells [dX [97],nI 1,dX [98],nI 2])
def Mh:Nat×aN:=(2237,.cells [dX [97]])
def Mi:Nat×aN:=(2241,.cells [dX [98]])
def Mj:Nat×aN:=(2271,.cells [dX [114],dX [],nI 8,nI 0,nS 2237 0 1,nS 2241 0 1,nI 1,nI 2,nI 0,nI 0,dX [],.int .i64 (.negSucc 0)])
def Mk:Nat×aN:=(2328,.cells [nI 0,nI 1])
def Ml:Nat×aN:=(2347,.cells [nS 2354 1 1,nS 2362 1 1])
def Mm:Nat×aN:=(2354,.cells [nI 1])
def Mo:Nat×aN:=(2362,.cells [nI 0])
def Mq:Nat×aN:=(2402,.cells [nI 0])
def Mr:Nat×aN:=(2405,.cells [nI 1])
def Ms:Nat×aN:=(2407,.cells [nS 2402 0 1,nS 2405 0 1])
def Mt:Nat×aN:=(2461,.cells [nI 0,nI 1])
def Mv:Nat×aN:=(2465,.cells [nS 2461 1 2])
def Mw:Nat×aN:=(2515,.cells [nI 0])
def Mx:Nat×aN:=(2519,.cells [nI 1])
def MB:Nat×aN:=(2525,.cells [nS 2515 1 1,nS 2519 1 1])
def MC:Nat×aN:=(2587,.cells [nS 2594 1 1,nS 2602 1 1])
def ME:Nat×aN:=(2594,.cells [nI 1])
def MF:Nat×aN:=(2602,.cells [nI 0])
def MG:Nat×aN:=(2647,.cells [nI 0,nI 1])
def MH:Nat×aN:=(2653,.cells [nI 0,nI 1])
def MI:Nat×aN:=(2655,.cells [nS 2647 1 2,nS 2653 1 2])
def MJ:Nat×aN:=(2695,.cells [nI 0,nI 1])
def MK:Nat×aN:=(2697,.cells [nS 2695 0 2])
def ML:Nat×aN:=(2740,.cells [nI 0,nI 1])
def MM:Nat×aN:=(2741,.cells [nS 2740 1 2])
def MN:Nat×aN:=(2743,.cells [nS 2407 1 2,nS 2465 1 1,nS 2525 1 2,nN,nS 2587 0 2,nS 2655 1 2,nS 2697 1 1,nS 2741 0 1])
def Qw:Nat×aN:=(693,.cells [dX [107],nI 1,nI 1,nI 2,nI 1,nN,nS 184 2 2,nN,nN,nS 220 12 1,nI 1,nI 2,nI 1,nN,nS 277 1 2,nS 296 0 2,nS 692 1 8])
def aec:Nat×aN:=(694,.cells [dX [107],nI 1,nI 1,nI 2,nI 1,nN,nS 184 2 2,nN,nN,nS 220 12 1,nI 1,nI 2,nI 1,nN,nS 277 1 2,nS 296 0 2,nS 692 1 8])
def aed:Nat×aN:=(695,.cells [nN,nN])
def Qx:Nat×aN:=(1711,.cells [dX [107],nI 1,nI 1,nI 2,nI 1,nN,nS 1202 2 2,nN,nN,nS 1238 12 1,nI 1,nI 2,nI 1,nN,nS 1295 1 2,nS 1314 0 2,nS 1710 1 8])
def aee:Nat×aN:=(1712,.cells [dX [107],nI 1,nI 1,nI 2,nI 1,nN,nS 1202 2 2,nN,nN,nS 1238 12 1,nI 1,nI 2,nI 1,nN,nS 1295 1 2,nS 1314 0 2,nS 1710 1 8])
def aef:Nat×aN:=(1713,.cells [nN,nN])
def Qy:Nat×aN:=(2744,.cells [dX [107],nI 1,nI 1,nI 2,nI 1,nN,nS 2228 2 2,nN,nN,nS 2271 12 1,nI 1,nI 2,nI 1,nN,nS 2328 1 2,nS 2347 0 2,nS 2743 1 8])
def aeg:Nat×aN:=(2745,.cells [dX [107],nI 1,nI 1,nI 2,nI 1,nN,nS 2228 2 2,nN,nN,nS 2271 12 1,nI 1,nI 2,nI 1,nN,nS 2328 1 2,nS 2347 0 2,nS 2743 1 8])
def aeh:Nat×aN:=(2746,.cells [nN,nN])
def aei:Nat×aN:=(2983,.cells [nI 0,nI 1])
def aej:Nat×aN:=(2989,.cells [nI 1,nI 0])
def aek:Nat×aN:=(2993,.cells [nS 2983 0 2,nS 2989 0 2])
def ael:Nat×aN:=(3023,.cells [nI 0,nI 1])
def at5(a b:ae UInt8):(decide (a<=b)||decide (b<=a))=true:=by
 rcases List.le_total a b with h|h<;>simp[h]
def at6{zs ks rs:ae ByteArray}(hp:zs.Perm ks)(hr:rs.Perm ks)(hs:(rs.map λz=>z.data.toList).Pairwise λa b=>decide (a<=b)=true):qY zs=rs:=by
 have h1:GI zs=rs.map λz=>z.data.toList:=by
  unfold GI;refine List.Perm.eq_of_pairwise (le:=λa b=>decide (a<=b)=true) (λa b _ _ h1 h2=>?_) (WE (λa b c h1 h2=>?_) at5 _) hs (((Bz _ _).trans (hp.map _)).trans (hr.map _).symm)
  .exact List.le_antisymm (iN h1) (iN h2)
  .exact dQ (List.le_trans (iN h1) (iN h2))
 unfold qY;rw[h1,sj];exact(yS λz _=>rfl).trans (Ih _)
def qK(l:ae Nat):ByteArray:=⟨⟨l.map UInt8.ofNat⟩⟩
def yQ:ae ByteArray:=[qK [101,97,99,104],qK [117,110,108,105,107,101],qK [97,112,97,114,116],qK [110,111,116],qK [99,111,110,110,101,99,116,101,100],qK [108,111,111,112],qK [103,105,118,101,110],qK [102,105,108,108,101,100],qK [115,116,101,112,115]]
def zV:ae ByteArray:=[qK [97,112,97,114,116],qK [99,111,110,110,101,99,116,101,100],qK [101,97,99,104],qK [102,105,108,108,101,100],qK [103,105,118,101,110],qK [108,111,111,112],qK [110,111,116],qK [115,116,101,112,115],qK [117,110,108,105,107,101]]
def at7:zV.Perm yQ:=by
 unfold zV yQ;decide
def aua:(zV.map λz=>z.data.toList).Pairwise λa b=>decide (a<=b)=true:=by
 unfold zV;decide
def aub:yQ.Nodup:=by
 unfold yQ;decide
variable{m clock:Nat}{es:ae MapEntry}
def auc{b:Nat}(hb:h.get b=some (.cells [.map (some m)]))(hbn:b<h.next)(hmn:m<h.next)(hm:h.get m=some (.map es clock))(hkeys:es.map (·.key)=yQ.map .string)(hborn:es.map (·.born)=List.range 9)(hc:8<clock):
 CALL Tryz.prog ⟨.func 325,[.func (.func 346) ⟨[]⟩ ⟨[ptr' b]⟩],[],none⟩ h (λr pm h2=>r=.ok (.slice (some ⟨h.next,0,some 1⟩) 9 9)/\pm=none/\h2=h.new (.cells (zV.map .string))):=by
 let d:Wd:=⟨⟨h.t,h.next,h.next⟩,λi=>i<h.next,λi hi=>hi⟩
 let aA:ae (ByteArray×ah):=yQ.zip (es.map (·.val))
 have hlen:es.length=9:=by have:=congrArg List.length hborn;simpa using this
 have hent:es.map (λe=>(e.key,e.val))=aA.map λp=>(fU p.1,p.2):=by
  have h1:es.map (λe=>(e.key,e.val))=(es.map (·.key)).zip (es.map (·.val)):=by rw[List.zip_map']
  rw[h1,hkeys];show(yQ.map Value.string).zip (es.map (·.val))=(yQ.zip (es.map (·.val))).map _;rw[List.zip_map_left];exact yS λp _=>rfl
 have hk1:aA.map (·.1)=yQ:=List.map_fst_zip (by rw[bC,hlen];exact bI _);have hmap:Cq fU aA es clock:=⟨hent,λe he=>by
  have:e.born∈es.map (·.born):=dM.2 ⟨e,he,rfl⟩;rw[hborn,r9]at this;omega,by rw[hborn];exact List.nodup_range,by rw[hk1];exact aub⟩
 have hF:∀f∈[dO b 0 [.map (some m)],wN fU m aA],f.p d:=by
  intro f hf;rcases dB.1 hf with rfl|hf
  .exact⟨_,⟨hbn,.inl hb⟩,λj u hj=>by rw[gI];exact hj⟩
  .rw[bS.1 hf];exact⟨hmn,es,clock,hm,hmap⟩
 have st:St [] d [] [dO b 0 [.map (some m)],wN fU m aA] d:=⟨⟨bI _,λ_ _ _=>rfl,λ_ _=>rfl⟩,Wd.Le.refl d,λi hi hz=>.inl hz,⟨[],rfl,xH,tg⟩,hF⟩
 refine .cut (zV.map .string) 9 1 tn (by simp[zV]) (.inr rfl) _ (atX (atU (b:=b) (bm:=m) (aA:=aA)) (λxs hx=>by have:=hx.length_eq;rw[hk1]at this;rw[this];exact⟨tr,tr⟩) [] d st) rfl ?_ ⟨rfl,rfl,rfl⟩;rintro r pm h' ⟨rfl,w',y,rfl,s,rfl,hy⟩;have hlow:=s.agree.low (bI _) tg;rw[hk1]at hy;have hsb:=at6 hy at7 aua;obtain⟨S,⟨S1,S2,q1,q2,e⟩,h2,h3⟩:=s.own;have hl:y.xs.length=(qY y.xs).length:=(OI _).symm;rw[hl]at q1;obtain⟨c,cells,e1,e2,e3,e4,e5⟩:=aah q1 (by rw[hsb];decide);rw[hsb]at e1 e4 e5;subst e2;refine⟨rfl,hlow,c,0,9,?_,?_,(λh=>by cases h),?_⟩
 .show jy.ok (gv aX.n y.c y.xs.length)=_;rw[hl,hsb,e1];rfl
 .rcases(h3 c (by rw[e];simp)).1 with q|q
  .exact q
  .cases q
 .have hcells:cells=zV.map .string:=by
   apply jr;intro j;by_cases hj:j<zV.length
   .obtain⟨_,u1,_⟩:=e5 j _ (bY hj);have:=u1 0 _ rfl;rw[dZ,bY hj];simpa[aX]using this
   .rw[iJ (by rw[e4];simpa[aX]using hj),iJ zp]
  unfold IH.qa;simp only[e3,hcells,o8,o9,wh];rw[if_pos tg,bP]
noncomputable def Qz(es:ae MapEntry)(clock:Nat):Bool:=oW 5 (.agg ⟨yQ.map .string⟩) (.agg ⟨nQ (λe=>e.key) es⟩)&&(oW 5 (.agg ⟨(List.range 9).map λi=>.int .i64 (.ofNat i)⟩) (.agg ⟨nQ (λe=>.int .i64 (.ofNat e.born)) es⟩)&&Nat.blt 8 clock)
noncomputable def Wo:bD->IH->ak (ah×IH):=λq h=>
 match q with
 |⟨.func f,[.func (.func g) ⟨[]⟩ ⟨[.pointer (some ⟨b,o,none⟩)]⟩],[],none⟩=>cond (Nat.beq f 325&&(Nat.beq g 346&&(Nat.beq o 0&&Nat.blt b h.next))) (match h.get b with
  |some (.cells [.map (some m)])=>cond (Nat.blt m h.next) (match h.get m with
   |some (.map es clock)=>cond (Qz es clock) (some (.slice (some ⟨h.next,0,some 1⟩) 9 9,h.new (.cells (zV.map .string)))) none
   |_=>none) none
  |_=>none) none
 |_=>none
def aud(h:Qz es clock=true):es.map (·.key)=yQ.map .string/\es.map (·.born)=List.range 9/\8<clock:=by
 unfold Qz at h;simp only[eU]at h;obtain⟨h1,h2,h3⟩:=h;have e1:=zf _ _ _ h1;have e2:=zf _ _ _ h2;injection e1 with e1;injection e1 with e1;injection e2 with e2;injection e2 with e2;rw[xN]at e1 e2;refine⟨e1.symm,?_,mG h3⟩;have:=congrArg (List.map λv:ah=>match v with| .int _ n=>n.toNat|_=>0) e2;rw[sj,sj]at this;have h4:(List.range 9).map (λi:Nat=>i)=es.map (·.born):=this;rw[<- h4,List.map_id']
def aue(hk:Wo q h=some (v,h')):CALL Tryz.prog q h (λr pm h2=>r=.ok v/\pm=none/\h2=h'):=by
 unfold Wo at hk;split at hk
 .rename_i f g b o;cases hcd:(Nat.beq f 325&&(Nat.beq g 346&&(Nat.beq o 0&&Nat.blt b h.next)))with
  |false=>rw[hcd]at hk;cases hk
  |true=>
   rw[hcd]at hk;simp only[eU]at hcd;obtain⟨h1,h2,h3,h4⟩:=hcd;have h1:=jR h1;have h2:=jR h2;have h3:=jR h3;have h4:b<h.next:=mG h4
   subst h1 h2 h3;simp only[cond_true]at hk;split at hk
   .rename_i m hb;cases hcm:Nat.blt m h.next with
    |false=>rw[hcm]at hk;cases hk
    |true=>
     rw[hcm]at hk;simp only[cond_true]at hk;split at hk
     .rename_i es clock hm;cases hf:Qz es clock with
      |false=>rw[hf]at hk;cases hk
      |true=>
       rw[hf]at hk;simp only[cond_true,bz,kL]at hk;obtain⟨rfl,rfl⟩:=hk;obtain⟨e1,e2,e3⟩:=aud hf;exact auc hb h4 (mG hcm) hm e1 e2 e3
     .cases hk
   .cases hk
 .cases hk
noncomputable def xA:Nat->ak (bD->IH->ak (ah×IH)):=λf=>cond (Nat.beq f 325) (some Wo) (Wn f)
def Bt(hm:xA f=some g){q:bD}{h:IH}{v:ah}{h':IH}(ht:g q h=some (v,h')):CALL Tryz.prog q h (λr pm h2=>r=.ok v/\pm=none/\h2=h'):=by
 simp only[xA]at hm;cases h1:Nat.beq f 325 with
 |true=>rw[h1]at hm;cases hm;exact aue ht
 |false=>rw[h1]at hm;exact at0 hm ht
noncomputable def Fa:Env:=ni Tryz.prog (zh 231 291) xA
def H6:sH Fa:=uu _ _ _ (by
 intro f q h v h' hm _ _;cases e:xA f with
 |none=>rw[e]at hm;cases hm
 |some g=>rw[e]at hm;exact Bt e hm)
noncomputable def tK(m low:Nat)(l:ae (Nat×aN))(n:Nat)(v:ah):BR:=λr pm h=>
 match pm with
 |some _=>false
 |none=>match r with
  | .ok v'=>oW 50 v v'&&(Nat.beq h.next n&&(Nat.beq h.low low&&(Gc l h&&BF (λa=>BF (λb=>cond (Nat.ble m (a*64+b)) true (cond (Ka (a*64+b) l) true (h.get (a*64+b)).isNone)) (List.range 64)) (List.range (m/64+1)))))
  | .gT _=>false
def vX{low:Nat}{l:ae (Nat×aN)}{n:Nat}{r:jy}{pm:ak FrameMode}(hl:tK m low l n v r pm h=true):OP m low l n v r pm h=true:=by
 unfold tK at hl;unfold OP;cases pm with
 |some _=>cases hl
 |none=>
  cases r with
  |gT _=>cases hl
  |ok v'=>
   dsimp only at hl⊢;simp only[eU]at hl⊢;obtain⟨h1,h2,h3,h4,h5⟩:=hl;refine⟨h1,h2,h3,h4,?_⟩;rw[FP,jN]at h5⊢;intro i hi;have hi:=r9.1 hi;have h6:=h5 (i/64) (r9.2 (Nat.lt_succ_of_le (Nat.div_le_div_right (Nat.le_of_lt hi))));rw[FP,jN]at h6;have h7:=h6 (i%64) (r9.2 (zX _ tf));rw[show i/64*64+i%64=i by omega]at h7;have h8:Nat.ble m i=false:=by
    cases e:Nat.ble m i with
    |false=>rfl
    |true=>have:=mG e;omega
   rw[h8]at h7;exact h7
