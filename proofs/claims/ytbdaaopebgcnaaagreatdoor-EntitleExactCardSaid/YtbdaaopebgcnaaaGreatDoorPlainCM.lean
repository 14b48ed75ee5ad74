/-
  What competitors are entitled to, in plain lists.
-/
import Derived.Test.YtbdaaopebgcnaaaGreatDoorPlainBM
set_option linter.all false
namespace En
open Rk
structure aU where
 p:Int
 k:Int
 u:Int
 d:Int
 g:List Int
def dF:aU:=⟨0,0,0,0,[]⟩
structure tO(s:aK)(f:aU):Prop where
 p0:0<=f.p
 p1:f.p<s.p
 k1:1<=f.k
 k3:f.k<=3
 d0:0<=f.d
 d1:f.d<1024
structure MN(s:aK)(l:List ak)(fs:List aU)(day:Int):Prop where
 ck:dL s l=0
 f16:fs.length<=16
 fl:∀f∈fs,tO s f
 d0:0<=day
 d1:day<1024
open Classical in
noncomputable def eG(s:aK)(l:List ak)(fs:List aU)(day:Int):Int:=
 if dL s l≠0 then dL s l else if 16<fs.length then 2 else if¬∀f∈fs,tO s f then 540 else if¬(0<=day/\day<1024)then 1 else 0
section
variable {s:aK} {l:List ak} {fs:List aU} {day:Int}
theorem TJ(h:dL s l≠0):eG s l fs day=dL s l:=by unfold eG;rw[if_pos h]
theorem TK(h:dL s l=0)(h2:16<fs.length):eG s l fs day=2:=by unfold eG;rw[if_neg (by omega),if_pos h2]
theorem uL(h:dL s l=0)(h2:¬16<fs.length)(h3:¬∀f∈fs,tO s f):eG s l fs day=540:=by unfold eG;rw[if_neg (by omega),if_neg h2,if_pos h3]
theorem MO(h:dL s l=0)(h2:¬16<fs.length)(h3:∀f∈fs,tO s f)(h4:¬(0<=day/\day<1024)):eG s l fs day=1:=by unfold eG;rw[if_neg (by omega),if_neg h2,if_neg (λk=>k h3),if_pos h4]
theorem Ig(h:MN s l fs day):eG s l fs day=0:=by
 have:=h.f16;unfold eG;rw[if_neg (λk=>k h.ck),if_neg (by omega),if_neg (λk=>k h.fl),if_neg (λk=>k ⟨h.d0,h.d1⟩)]
theorem uM(h:eG s l fs day=0):MN s l fs day:=by
 unfold eG at h;split at h
 ·contradiction
 ·split at h
  ·cases h
  ·split at h
   ·cases h
   ·split at h
    ·cases h
    ·rename_i h1 h2 h3 h4;have h4:=Classical.not_not.1 h4;exact⟨by omega,by omega,Classical.not_not.1 h3,h4.1,h4.2⟩
end
def fty(fs:List aU)(day p:Int):Bool:=fs.any λf=>decide (f.k≠3)&&(decide (f.d<=day)&&decide (f.p=p))
def bO(l:List ak)(fs:List aU)(day:Int):List ak:=l.map λx=>{x with r:=x.r&&!fty fs day x.p}
theorem xL(l:List ak)(fs:List aU)(day:Int):(bO l fs day).length=l.length:=List.length_map ..
theorem TL{l:List ak}{fs:List aU}{day:Int}{i:Nat}{x:ak}(h:l[i]? =some x):(bO l fs day)[i]? =some {x with r:=x.r&&!fty fs day x.p}:=by unfold bO;rw[List.getElem?_map,h];rfl
open Classical in
noncomputable def DL(s:aK)(l:List ak)(fs:List aU)(day:Int):List ak:=if eG s l fs day=0 then bO l fs day else[]
structure tQ(a b:List ak):Prop where
 len:a.length=b.length
 ok:∀(i:Nat) x y,a[i]? =some x->b[i]? =some y->x={y with r:=x.r}
theorem tQ.rs{s:aK}{a b:List ak}(h:tQ a b)(hb:∀x∈b,iq s x):∀x∈a,iq s x:=λx hx=>by
 obtain⟨i,hi⟩:=List.getElem?_of_mem hx;have hlt:=(List.getElem?_eq_some_iff.1 hi).1;have hlen:=h.len;have hy:b[i]? =some (b[i]'(by omega)):=List.getElem?_eq_getElem _;have he:=h.ok i x _ hi hy;have hm:=hb _ (List.mem_of_getElem? hy);generalize b[i]'(by omega)=y at he hm;rw[he];exact⟨hm.c0,hm.c1,hm.p0,hm.p1,hm.t0,hm.t1,hm.lo,hm.le,hm.hi⟩
theorem tQ.symm{a b:List ak}(h:tQ a b):tQ b a:=⟨h.len.symm,λi x y hx hy=>by
 have:=h.ok i y x hy hx;rw[this]⟩
theorem tQ.mR{s:aK}{a b:List ak}(h:tQ a b):dL s a=dL s b:=by
 have h2:(rQ s/\∀x∈a,iq s x)↔(rQ s/\∀x∈b,iq s x):=⟨λk=>⟨k.1,h.symm.rs k.2⟩,λk=>⟨k.1,h.rs k.2⟩⟩
 unfold dL;rw[h.len];by_cases h3:rQ s/\∀x∈b,iq s x
 ·rw[if_neg (show¬¬(rQ s/\∀x∈a,iq s x)from λk=>k (h2.2 h3)),if_neg (show¬¬(rQ s/\∀x∈b,iq s x)from λk=>k h3)]
 ·rw[if_pos (show¬(rQ s/\∀x∈a,iq s x)from λk=>h3 (h2.1 k)),if_pos (show¬(rQ s/\∀x∈b,iq s x)from h3)]
theorem tQ.res{s:aK}{a b:List ak}{fs:List aU}{day:Int}(h:tQ a b):eG s a fs day=eG s b fs day:=by
 unfold eG;rw[h.mR]
theorem MP(l:List ak)(fs:List aU)(day:Int):tQ (bO l fs day) l:=⟨xL ..,λi x y hx hy=>by
 rw[TL hy]at hx;cases hx;rfl⟩
def oq(fs:List aU)(day p:Int):Bool:=fs.any λf=>decide (f.p=p)&&(decide (f.k=3)&&decide (f.d<=day))
def aS(s:aK)(fs:List aU)(day:Int):List Nat:=(List.range s.p.toNat).filter λ(p:Nat)=>oq fs day p
theorem aec(s:aK)(fs:List aU)(day:Int):(aS s fs day).Nodup:=List.nodup_range.filter _
theorem TM(s:aK)(fs:List aU)(day:Int):(aS s fs day).length<=s.p.toNat:=by
 have:=List.length_filter_le (λ(p:Nat)=>oq fs day p) (List.range s.p.toNat);rw[List.length_range]at this;exact this
def jo(dq:List Nat)(n:Nat)(p:Int):Bool:=(List.range dq.length).any λk=>decide (((dq.getD k 0:Nat):Int)=p)&&n.testBit k
def rd(l:List ak)(o:List Bool)(dq:List Nat)(n:Nat):List ak:=List.zipWith (λx b=>if jo dq n x.p then{x with r:=b}else x) l o
theorem Ih{l:List ak}{o:List Bool}(h:o.length=l.length)(dq:List Nat)(n:Nat):(rd l o dq n).length=l.length:=by unfold rd;rw[List.length_zipWith,h,Nat.min_self]
theorem aed{l:List ak}{o:List Bool}{dq:List Nat}{n i:Nat}{x:ak}{b:Bool}(hx:l[i]? =some x)(hb:o[i]? =some b):(rd l o dq n)[i]? =some (if jo dq n x.p then{x with r:=b}else x):=by unfold rd;rw[List.getElem?_zipWith,hx,hb]
theorem TN{l:List ak}{o:List Bool}(h:o.length=l.length)(dq:List Nat)(n:Nat):tQ (rd l o dq n) l:=⟨Ih h dq n,λi x y hx hy=>by
 have hi:=(List.getElem?_eq_some_iff.1 hy).1;have hb:o[i]? =some (o[i]'(by omega)):=List.getElem?_eq_getElem _;rw[aed hy hb]at hx;cases hx;split<;>rfl⟩
theorem TP{l:List ak}{o:List Bool}{dq y7:List Nat}{n n':Nat}(h:∀p,jo dq n p=jo y7 n' p):rd l o dq n=rd l o y7 n':=by
 unfold rd;simp only[h]
theorem Li{l:List ak}{o:List Bool}(h:o.length=l.length)(n:Nat):rd l o [] n=l:=by
 unfold rd;simp only[jo,List.length_nil,List.range_zero,List.any_nil,Bool.false_eq_true,if_false];induction l generalizing o with
 |nil=>rfl
 |cons x l ih=>
  cases o with
  |nil=>simp at h
  |cons b o=>rw[List.zipWith_cons_cons,ih (by simpa using h)]
theorem TQ{dq:List Nat}{n:Nat}{p:Int}(h:jo dq n p=true):∃q∈dq,(q:Int)=p:=by
 obtain⟨k,hk,h2⟩:=List.any_eq_true.1 h;rw[List.mem_range]at hk;simp only[Bool.and_eq_true,decide_eq_true_eq]at h2;refine⟨dq.getD k 0,?_,h2.1⟩;rw[List.getD_eq_getElem?_getD,List.getElem?_eq_getElem hk];exact List.getElem_mem hk
theorem MQ{dq:List Nat}{q n:Nat}{p:Int}:jo (dq++[q]) n p=(jo dq n p||(decide ((q:Int)=p)&&n.testBit dq.length)):=by
 unfold jo;rw[List.length_append,List.length_singleton,List.range_succ,List.any_append];congr 1
 ·refine MS λk hk=>?_;rw[List.mem_range]at hk;rw[List.getD_eq_getElem?_getD,List.getElem?_append_left hk,<- List.getD_eq_getElem?_getD]
 ·rw[List.any_cons,List.any_nil,Bool.or_false,List.getD_eq_getElem?_getD,List.getElem?_append_right (Nat.le_refl _),Nat.sub_self];rfl
where MS {α:Type} {f g:α->Bool}:∀{l:List α},(∀x∈l,f x=g x)->l.any f=l.any g
 |[],_=>rfl
 |x::l,h=>by rw[List.any_cons,List.any_cons,h x (List.mem_cons_self ..),MS λy hy=>h y (List.mem_cons_of_mem _ hy)]
theorem aee{dq:List Nat}(hn:dq.Nodup){n k:Nat}(hk:k<dq.length):jo dq n ((dq[k]:Nat):Int)=n.testBit k:=by
 cases e:n.testBit k with
 |true=>
  refine List.any_eq_true.2 ⟨k,List.mem_range.2 hk,?_⟩;rw[e,List.getD_eq_getElem?_getD,List.getElem?_eq_getElem hk];simp
 |false=>
  rw[Bool.eq_false_iff];intro h;obtain⟨j,hj,h2⟩:=List.any_eq_true.1 h;rw[List.mem_range]at hj;simp only[Bool.and_eq_true,decide_eq_true_eq]at h2;rw[List.getD_eq_getElem?_getD,List.getElem?_eq_getElem hj]at h2;have:=(List.getElem_inj hn).1 (show dq[j]=dq[k]by have:=h2.1;simp at this;exact_mod_cast this);subst this;rw[e]at h2;cases h2.2
theorem TR(q:Nat->Bool):∀(m:Nat) (dq:List Nat),dq.length=m->∃n,n<2^m/\∀p:Int,jo dq n p=dq.any λx=>decide ((x:Int)=p)&&q x
 |0,dq,h=>⟨0,by decide,λp=>by rw[List.length_eq_zero_iff.1 h];rfl⟩
 |m+1,dq,h=>by
  have e:=List.dropLast_concat_getLast (l:=dq) (by intro e;rw[e]at h;cases h);generalize dq.getLast (by intro e;rw[e]at h;cases h)=x at e;have hl:dq.dropLast.length=m:=by rw[List.length_dropLast,h];rfl
  generalize dq.dropLast=d at e hl;subst e;obtain⟨n,hn,h2⟩:=TR q m d hl;have hkeep:∀p,jo d (n+2^m*(q x).toNat) p=jo d n p:=λp=>by
   unfold jo;refine MQ.MS λk hk=>?_;rw[List.mem_range,hl]at hk;cases q x with
   |false=>rw[Bool.toNat_false,Nat.mul_zero,Nat.add_zero]
   |true=>rw[Bool.toNat_true,Nat.mul_one,Nat.add_comm,Nat.testBit_two_pow_add_gt hk]
  refine⟨n+2^m*(q x).toNat,?_,λp=>?_⟩
  ·rw[Nat.pow_succ];cases q x<;>simp<;>omega
  ·rw[MQ,hkeep,h2,List.any_append,List.any_cons,List.any_nil,Bool.or_false,hl];congr 2;cases q x with
   |false=>rw[Bool.toNat_false,Nat.mul_zero,Nat.add_zero,Nat.testBit_lt_two_pow hn]
   |true=>rw[Bool.toNat_true,Nat.mul_one,Nat.add_comm,Nat.testBit_two_pow_add_eq,Nat.testBit_lt_two_pow hn];rfl
theorem TS{dq y7:List Nat}(hs:∀x∈y7,x∈dq)(n':Nat):∃n,n<2^dq.length/\∀p,jo dq n p=jo y7 n' p:=by
 obtain⟨n,hn,h⟩:=TR (λx=>jo y7 n' (x:Int)) dq.length dq rfl;refine⟨n,hn,λp=>?_⟩;rw[h];cases e:jo y7 n' p with
 |true=>
  obtain⟨q,hq,rfl⟩:=TQ e;exact List.any_eq_true.2 ⟨q,hs q hq,by rw[e];simp⟩
 |false=>
  rw[List.any_eq_false];intro x _ k;simp only[Bool.and_eq_true,decide_eq_true_eq]at k;obtain⟨rfl,k⟩:=k;rw[e]at k;cases k
theorem Bi(t:List Int):(iy t).length=t.length:=List.length_map ..
theorem TT(t:List Int):Ranks (iy t):=λr hr=>by
 obtain⟨n,hn,rfl⟩:=List.mem_map.1 hr;have:lD (iy t) (1+((t.countP λm=>decide (n<m):Nat):Int))=t.countP λm=>decide (n<m):=by
  unfold lD iy;rw[List.countP_map];refine List.countP_congr λm hm=>?_;simp only[Function.comp_apply,decide_eq_true_eq];constructor
  ·intro h;apply Classical.byContradiction;intro hlt;have:(t.countP λx=>decide (n<x))<=t.countP λx=>decide (m<x):=List.countP_mono_left λx _ hx=>by simp at hx⊢;omega
   omega
  ·intro h;have:(t.countP λx=>decide (m<x))+(t.countP λx=>decide (x=m))<=t.countP λx=>decide (n<x):=by
    clear hm hn hr;induction t with
    |nil=>simp
    |cons x t ih=>
     rw[List.countP_cons,List.countP_cons,List.countP_cons];by_cases h1:m<x
     ·simp[h1,show x≠m by omega,show n<x by omega];omega
     ·by_cases h2:x=m
      ·simp[h2,h];omega
      ·simp[h1,h2];split<;>omega
   have hp:0<t.countP λx=>decide (x=m):=List.countP_pos_iff.2 ⟨m,hm,by simp⟩;omega
 rw[this];omega
def gI(pz t:List Int):List Int:=(iy t).map (jX pz (iy t))
theorem DN(pz t:List Int):(gI pz t).length=t.length:=by unfold gI;rw[List.length_map,Bi]
def y8(s:aK)(l:List ak)(o:List Bool)(fs:List aU)(day:Int)(m:Nat):List (List Int):=dJ s (bO (rd l o (aS s fs day) m) fs day) s.p.toNat
def oz(s:aK)(l:List ak)(o:List Bool)(fs:List aU)(day:Int)(n:Nat):List (List Int):=(List.range n).flatMap λm=>(y8 s l o fs day m).map (gI s.pz)
def outs(s:aK)(l:List ak)(o:List Bool)(fs:List aU)(day:Int):List (List Int):=oz s l o fs day (2^(aS s fs day).length)
def vX(s:aK)(l:List ak)(o:List Bool)(fs:List aU)(day:Int):Prop:=∃n,n<2^(aS s fs day).length/\jm s (bO (rd l o (aS s fs day) n) fs day)
open Classical in
noncomputable def jZ(s:aK)(l:List ak)(o:List Bool)(fs:List aU)(day:Int):Int:=
 if eG s l fs day≠0 then eG s l fs day else if o.length≠l.length then 550 else if vX s l o fs day then 2 else 0
section
variable {s:aK} {l:List ak} {o:List Bool} {fs:List aU} {day:Int}
theorem MU(h:eG s l fs day≠0):jZ s l o fs day=eG s l fs day:=by unfold jZ;rw[if_pos h]
theorem MV(h:eG s l fs day=0)(h2:o.length≠l.length):jZ s l o fs day=550:=by unfold jZ;rw[if_neg (by omega),if_pos h2]
theorem TU(h:eG s l fs day=0)(h2:o.length=l.length)(h3:vX s l o fs day):jZ s l o fs day=2:=by unfold jZ;rw[if_neg (by omega),if_neg (by omega),if_pos h3]
theorem Ii(h:eG s l fs day=0)(h2:o.length=l.length)(h3:¬vX s l o fs day):jZ s l o fs day=0:=by unfold jZ;rw[if_neg (by omega),if_neg (by omega),if_neg h3]
theorem TV(n:Nat):oz s l o fs day (n+1)=oz s l o fs day n++(y8 s l o fs day n).map (gI s.pz):=by
 unfold oz;rw[List.range_succ,List.flatMap_append,List.flatMap_singleton]
theorem xM{n:Nat}{u:List Int}:u∈oz s l o fs day n↔∃m,m<n/\∃t∈y8 s l o fs day m,u=gI s.pz t:=by
 unfold oz;rw[List.mem_flatMap];constructor
 ·rintro⟨m,h1,h2⟩;obtain⟨t,h3,rfl⟩:=List.mem_map.1 h2;exact⟨m,List.mem_range.1 h1,t,h3,rfl⟩
 ·rintro⟨m,h1,t,h2,rfl⟩;exact⟨m,List.mem_range.2 h1,List.mem_map_of_mem h2⟩
theorem TW(h:o.length=l.length)(n:Nat):eG s (rd l o (aS s fs day) n) fs day=eG s l fs day:=(TN h _ n).res
theorem Ij(hr:eG s l fs day=0)(h:o.length=l.length)(n:Nat):dL s (bO (rd l o (aS s fs day) n) fs day)=0:=by
 rw[(MP ..).mR,(TN h _ n).mR];exact(uM hr).ck
theorem TY(hr:eG s l fs day=0)(h:o.length=l.length):outs s l o fs day≠[]:=λe=>by
 obtain⟨t,ht⟩:=List.exists_mem_of_ne_nil _ (MG (l7 (Ij hr h 0)).rs s.p.toNat);have:gI s.pz t∈outs s l o fs day:=xM.2 ⟨0,Nat.two_pow_pos _,t,ht,rfl⟩;rw[e]at this;cases this
theorem TZ{n:Nat}{u:List Int}(h:u∈oz s l o fs day n):u.length=s.c.toNat:=by
 obtain⟨m,_,t,ht,rfl⟩:=xM.1 h;rw[DN,lF ht]
end
def aef(X:List Int)(m:Int):Prop:=m∈X/\∀x∈X,m<=x
def aeg(X:List Int)(m:Int):Prop:=m∈X/\∀x∈X,x<=m
def nH(X:List Int)(r:Int×Int):Prop:=aef X r.1/\aeg X r.2
theorem nH.less{X Y:List Int}{r q:Int×Int}(h:nH X r)(h2:nH Y q)(hs:∀y∈Y,y∈X):r.1<=q.1/\q.2<=r.2:=⟨h.1.2 _ (hs _ h2.1.1),h.2.2 _ (hs _ h2.2.1)⟩
theorem nH.one{n:Int}{X:List Int}{r:Int×Int}(h:nH X r)(hx:∀x∈X,x=n):r=(n,n):=by
 have h1:=hx _ h.1.1;have h2:=hx _ h.2.1;rw[<- Prod.eta r,h1,h2]
def DR(X:List (List Int))(c:Nat):List Int:=X.map λu=>u.getD c 0
def Ik(r:Int×Int):Int:=if 0<r.1 then 1 else if r.2=0 then 3 else 2
theorem aeh{s:aK}{l:List ak}{fs gs:List aU}{day:Int}(hl:gs.length<=fs.length)(hm:∀f∈gs,f∈fs)(h:eG s l fs day=0):eG s l gs day=0:=by
 have k:=uM h;have:=k.f16;exact Ig ⟨k.ck,by omega,λf hf=>k.fl f (hm f hf),k.d0,k.d1⟩
theorem aei{s:aK}{l:List ak}{o:List Bool}{fs gs:List aU}{day:Int}(hf:∀p,fty gs day p=fty fs day p)(hm:∀f∈gs,f∈fs):
 (vX s l o gs day->vX s l o fs day)/\∀u∈outs s l o gs day,u∈outs s l o fs day:=by
 have hd:∀x∈aS s gs day,x∈aS s fs day:=λx hx=>by
  have:=List.mem_filter.1 hx;refine List.mem_filter.2 ⟨this.1,?_⟩;obtain⟨f,h1,h2⟩:=List.any_eq_true.1 this.2;exact List.any_eq_true.2 ⟨f,hm f h1,h2⟩
 have hv:∀x:List ak,bO x gs day=bO x fs day:=λx=>by unfold bO;simp only[hf]
 refine⟨?_,λu hu=>?_⟩
 ·rintro⟨n',_,h⟩;obtain⟨n,hn,hb⟩:=TS hd n';refine⟨n,hn,?_⟩;rw[TP hb,<- hv];exact h
 ·obtain⟨n',_,t,ht,rfl⟩:=xM.1 hu;obtain⟨n,hn,hb⟩:=TS hd n';refine xM.2 ⟨n,hn,t,?_,rfl⟩;unfold y8 at ht⊢;rw[TP hb,<- hv];exact ht
theorem aej{fs:List aU}{i:Nat}{f:aU}(h:fs[i]? =some f)(hk:f.k=3)(day p:Int):fty (fs.take i++fs.drop (i+1)) day p=fty fs day p:=by
 have hi:=(List.getElem?_eq_some_iff.1 h).1;have e:fs=fs.take i++f::fs.drop (i+1):=by
  conv=>lhs;rw[<- List.take_append_drop i fs,List.drop_eq_getElem_cons hi,(List.getElem?_eq_some_iff.1 h).2]
 conv=>rhs;rw[e]
 unfold fty;rw[List.any_append,List.any_append,List.any_cons,hk];simp
