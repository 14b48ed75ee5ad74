/-
  Lists compared: of lists, names, symbols, regions, clues, rules.
-/
import Derived.Test.YtoohgkkmdnbnfaaGreatDoorLibAE
import Derived.Test.YtoohgkkmdnbnfaaGreatDoorShelf
import Derived.Test.YtoohgkkmdnbnfaaGreatDoorIdealOE
set_option linter.all false
set_option maxRecDepth 10000
set_option maxHeartbeats 2000000
namespace Go.Proofs.YtoohgkkmdnbnfaaGreatDoor
open Go.Ideal Kd
theorem R6{va vb:Value}{xs ys:List (List Int)}(hal:xs.length<9223372036854775808)(hl:∀l∈xs,l.length<9223372036854775808):dS Tryz.prog 157 [va,vb,.func (.func 104) #[] #[]] [ai (aC ae) va xs,ai (aC ae) vb ys] (.bool (decide (xs=ys))):=by
 refine aS _ (aQ 157) λB w0=>?_;refine go ?_;refine aG rfl (λh1=>?_) (λh1=>?_)
 ·refine go ?_;refine aa () (hv:=?_) (hp:=trivial);rw[cO (λe=>h1 (by rw[e]))];rfl
 have hlen:xs.length=ys.length:=by omega
 refine go ?_;refine bJ (λk=>xs.length - k) (λk:Nat=>[(17,.int .i64 (k:Int))]) (λ_=>[]) (λ_=>[]) (λk=>k<=xs.length/\∀j,j<k->xs[j]? =ys[j]?) 0 ⟨by omega,λj hj=>by omega⟩ (body:=?_);rintro k ⟨hkx,hsame⟩;refine go ?_;refine aG rfl (λh2=>?_) (λh2=>?_)
 ·refine go ?_;refine dm (aC ae) (next:=λ_ _ x (vx:Value) hx=>?_);refine go ?_;refine dm (aC ae) (next:=λ_ _ y (vy:Value) hy=>?_);refine go ?_;refine ax (yD (xs:=x) (ys:=y) (hl x (bG hx))) (next:=λ_ _=>?_);refine go ?_;refine lg rfl (λh3=>?_) (λh3=>?_)
  ·refine go ?_;refine aa () (hv:=?_) (hp:=trivial);rw[cO (λe=>h3 (by rw[e,hy]at hx;cases hx;rfl))];rfl
  refine go ?_;refine bi (k+1) (by omega) ⟨by omega,λj hj=>?_⟩;by_cases e:j=k
  ·subst e;rw[hx,hy,h3]
  ·exact hsame j (by omega)
 refine go ?_;refine aa () (hv:=?_) (hp:=trivial);have:xs=ys:=by
  apply jD;intro j;by_cases hj:j<k
  ·exact hsame j hj
  ·rw[gy (by omega),gy (by omega)]
 rw[dU this];rfl
theorem R7{va vb:Value}{xs ys:List (List Int)}(hal:xs.length<9223372036854775808)(hl:∀l∈xs,l.length<9223372036854775808):dS Tryz.prog 106 [va,vb] [ai (aC ae) va xs,ai (aC ae) vb ys] (.bool (decide (xs=ys))):=by
 refine aS _ (aQ 106) λB w0=>?_;refine go ?_;refine ax (R6 (xs:=xs) (ys:=ys) hal hl) (next:=λ_ _=>?_);refine go ?_;exact aa () (hv:=rfl) (hp:=trivial)
theorem abb{va vb:Value}{xs ys:List (List (List Int))}(hal:xs.length<9223372036854775808)(hl:∀l∈xs,l.length<9223372036854775808/\∀m∈l,m.length<9223372036854775808):dS Tryz.prog 107 [va,vb,.func (.func 106) #[] #[]] [ai (aC (aC ae)) va xs,ai (aC (aC ae)) vb ys] (.bool (decide (xs=ys))):=by
 refine aS _ (aQ 107) λB w0=>?_;refine go ?_;refine aG rfl (λh1=>?_) (λh1=>?_)
 ·refine go ?_;refine aa () (hv:=?_) (hp:=trivial);rw[cO (λe=>h1 (by rw[e]))];rfl
 have hlen:xs.length=ys.length:=by omega
 refine go ?_;refine bJ (λk=>xs.length - k) (λk:Nat=>[(17,.int .i64 (k:Int))]) (λ_=>[]) (λ_=>[]) (λk=>k<=xs.length/\∀j,j<k->xs[j]? =ys[j]?) 0 ⟨by omega,λj hj=>by omega⟩ (body:=?_);rintro k ⟨hkx,hsame⟩;refine go ?_;refine aG rfl (λh2=>?_) (λh2=>?_)
 ·refine go ?_;refine dm (aC (aC ae)) (next:=λ_ _ x (vx:Value) hx=>?_);refine go ?_;refine dm (aC (aC ae)) (next:=λ_ _ y (vy:Value) hy=>?_);refine go ?_;refine ax (R7 (xs:=x) (ys:=y) (hl x (bG hx)).1 (hl x (bG hx)).2) (next:=λ_ _=>?_);refine go ?_;refine lg rfl (λh3=>?_) (λh3=>?_)
  ·refine go ?_;refine aa () (hv:=?_) (hp:=trivial);rw[cO (λe=>h3 (by rw[e,hy]at hx;cases hx;rfl))];rfl
  refine go ?_;refine bi (k+1) (by omega) ⟨by omega,λj hj=>?_⟩;by_cases e:j=k
  ·subst e;rw[hx,hy,h3]
  ·exact hsame j (by omega)
 refine go ?_;refine aa () (hv:=?_) (hp:=trivial);have:xs=ys:=by
  apply jD;intro j;by_cases hj:j<k
  ·exact hsame j hj
  ·rw[gy (by omega),gy (by omega)]
 rw[dU this];rfl
theorem R8{va vb:Value}{xs ys:List ByteArray}(hal:xs.length<9223372036854775808):dS Tryz.prog 159 [va,vb] [ai bV va xs,ai bV vb ys] (.bool (decide (xs=ys))):=by
 refine aS _ (aQ 159) λB w0=>?_;refine go ?_;refine aG rfl (λh1=>?_) (λh1=>?_)
 ·refine go ?_;refine aa () (hv:=?_) (hp:=trivial);rw[cO (λe=>h1 (by rw[e]))];rfl
 have hlen:xs.length=ys.length:=by omega
 refine go ?_;refine bJ (λk=>xs.length - k) (λk:Nat=>[(13,.int .i64 (k:Int))]) (λ_=>[]) (λ_=>[]) (λk=>k<=xs.length/\∀j,j<k->xs[j]? =ys[j]?) 0 ⟨by omega,λj hj=>by omega⟩ (body:=?_);rintro k ⟨hkx,hsame⟩;refine go ?_;refine aG rfl (λh2=>?_) (λh2=>?_)
 ·refine go ?_;refine dm bV (next:=λ_ _ x (_:Unit) hx=>?_);refine go ?_;refine dm bV (next:=λ_ _ y (_:Unit) hy=>?_);refine go ?_;refine lg (p:=x=y) (by show Value.bool _=_;rw[nC]) (λh3=>?_) (λh3=>?_)
  ·refine go ?_;refine aa () (hv:=?_) (hp:=trivial);rw[cO (λe=>h3 (by rw[e,hy]at hx;cases hx;rfl))];rfl
  refine go ?_;refine bi (k+1) (by omega) ⟨by omega,λj hj=>?_⟩;by_cases e:j=k
  ·subst e;rw[hx,hy,h3]
  ·exact hsame j (by omega)
 refine go ?_;refine aa () (hv:=?_) (hp:=trivial);have:xs=ys:=by
  apply jD;intro j;by_cases hj:j<k
  ·exact hsame j hj
  ·rw[gy (by omega),gy (by omega)]
 rw[dU this];rfl
theorem abd(x y:lV):cellsE [.string x.name,.int .i64 x.value] [.string y.name,.int .i64 y.value]=decide (x=y):=by
 obtain⟨a,b⟩:=x;obtain⟨c,e⟩:=y;show(decide (a=c)&&(decide (b=e)&&true))=_;rw[Bool.and_true,<- Bool.decide_and];exact rO.2 ⟨λh=>by rw[h.1,h.2],λh=>by cases h;exact⟨rfl,rfl⟩⟩
abbrev Kc(x:ji):List Value:=[.string x.name,.string x.on,.int .i64 x.family,.int .i64 x.type,.int .i64 x.lo,.int .i64 x.hi]
theorem abe(x y:ji):cellsE (Kc x) (Kc y)=decide (x=y):=by
 obtain⟨a1,a2,a3,a4,a5,a6⟩:=x;obtain⟨b1,b2,b3,b4,b5,b6⟩:=y;show(decide (a1=b1)&&(decide (a2=b2)&&(decide (a3=b3)&&(decide (a4=b4)&&(decide (a5=b5)&&(decide (a6=b6)&&true))))))=_;rw[Bool.and_true];simp only[<- Bool.decide_and];exact rO.2 ⟨λh=>by rw[h.1,h.2.1,h.2.2.1,h.2.2.2.1,h.2.2.2.2.1,h.2.2.2.2.2],λh=>by cases h;exact⟨rfl,rfl,rfl,rfl,rfl,rfl⟩⟩
theorem abf:∃fs:Array Field,Tryz.prog.underlying 84=some (.struct fs)/\CU Tryz.prog fs.toList 0 [false,true]=true:=by
 refine⟨Tryz.prog.fieldsOf 84,by kernel_rfl,by kernel_rfl⟩
theorem abg:∃fs:Array Field,Tryz.prog.underlying 115=some (.struct fs)/\CU Tryz.prog fs.toList 0 [false,false,true,true,true,true]=true:=by
 refine⟨Tryz.prog.fieldsOf 115,by kernel_rfl,by kernel_rfl⟩
theorem abh{va vb:Value}{xs ys:List lV}(hal:xs.length<9223372036854775808):dS Tryz.prog 160 [va,vb] [ai jM va xs,ai jM vb ys] (.bool (decide (xs=ys))):=by
 obtain⟨fs,hu,hrow⟩:=abf;refine aS _ (aQ 160) λB w0=>?_;refine go ?_;refine aG rfl (λh1=>?_) (λh1=>?_)
 ·refine go ?_;refine aa () (hv:=?_) (hp:=trivial);rw[cO (λe=>h1 (by rw[e]))];rfl
 have hlen:xs.length=ys.length:=by omega
 refine go ?_;refine bJ (λk=>xs.length - k) (λk:Nat=>[(13,.int .i64 (k:Int))]) (λ_=>[]) (λ_=>[]) (λk=>k<=xs.length/\∀j,j<k->xs[j]? =ys[j]?) 0 ⟨by omega,λj hj=>by omega⟩ (body:=?_);rintro k ⟨hkx,hsame⟩;refine go ?_;refine aG rfl (λh2=>?_) (λh2=>?_)
 ·refine go ?_;refine dm jM (next:=λ_ _ x (_:Unit) hx=>?_);refine go ?_;refine dm jM (next:=λ_ _ y (_:Unit) hy=>?_);refine go ?_;refine(fP (v:=.bool (!decide (x=y))) rfl rfl (by rw[<- abd];exact Qu rfl rfl hu (by kernel_rfl) (by kernel_rfl) (row_of hrow rfl rfl (λj=>by rw[eG]) (λj=>by rw[eG])) (by simp[fD,bD,Ideal.cellV]) (by simp[fD,bD,Ideal.cellV]))).h ?_;refine go ?_;refine lg rfl (λh3=>?_) (λh3=>?_)
  ·refine go ?_;refine aa () (hv:=?_) (hp:=trivial);rw[cO (λe=>h3 (by rw[e,hy]at hx;cases hx;rfl))];rfl
  refine go ?_;refine bi (k+1) (by omega) ⟨by omega,λj hj=>?_⟩;by_cases e:j=k
  ·subst e;rw[hx,hy,h3]
  ·exact hsame j (by omega)
 refine go ?_;refine aa () (hv:=?_) (hp:=trivial);have:xs=ys:=by
  apply jD;intro j;by_cases hj:j<k
  ·exact hsame j hj
  ·rw[gy (by omega),gy (by omega)]
 rw[dU this];rfl
theorem abj{va vb:Value}{xs ys:List ji}(hal:xs.length<9223372036854775808):dS Tryz.prog 162 [va,vb] [ai dH va xs,ai dH vb ys] (.bool (decide (xs=ys))):=by
 obtain⟨fs,hu,hrow⟩:=abg;refine aS _ (aQ 162) λB w0=>?_;refine go ?_;refine aG rfl (λh1=>?_) (λh1=>?_)
 ·refine go ?_;refine aa () (hv:=?_) (hp:=trivial);rw[cO (λe=>h1 (by rw[e]))];rfl
 have hlen:xs.length=ys.length:=by omega
 refine go ?_;refine bJ (λk=>xs.length - k) (λk:Nat=>[(13,.int .i64 (k:Int))]) (λ_=>[]) (λ_=>[]) (λk=>k<=xs.length/\∀j,j<k->xs[j]? =ys[j]?) 0 ⟨by omega,λj hj=>by omega⟩ (body:=?_);rintro k ⟨hkx,hsame⟩;refine go ?_;refine aG rfl (λh2=>?_) (λh2=>?_)
 ·refine go ?_;refine dm dH (next:=λ_ _ x (_:Unit) hx=>?_);refine go ?_;refine dm dH (next:=λ_ _ y (_:Unit) hy=>?_);refine go ?_;refine(fP (v:=.bool (!decide (x=y))) rfl rfl (by rw[<- abe];exact Qu rfl rfl hu (by kernel_rfl) (by kernel_rfl) (row_of hrow rfl rfl (λj=>by rw[eG]) (λj=>by rw[eG])) (by simp[fD,bD,Ideal.cellV]) (by simp[fD,bD,Ideal.cellV]))).h ?_;refine go ?_;refine lg rfl (λh3=>?_) (λh3=>?_)
  ·refine go ?_;refine aa () (hv:=?_) (hp:=trivial);rw[cO (λe=>h3 (by rw[e,hy]at hx;cases hx;rfl))];rfl
  refine go ?_;refine bi (k+1) (by omega) ⟨by omega,λj hj=>?_⟩;by_cases e:j=k
  ·subst e;rw[hx,hy,h3]
  ·exact hsame j (by omega)
 refine go ?_;refine aa () (hv:=?_) (hp:=trivial);have:xs=ys:=by
  apply jD;intro j;by_cases hj:j<k
  ·exact hsame j hj
  ·rw[gy (by omega),gy (by omega)]
 rw[dU this];rfl
end Go.Proofs.YtoohgkkmdnbnfaaGreatDoor
set_option maxHeartbeats 4000000
namespace Go.Proofs.YtoohgkkmdnbnfaaGreatDoor
open Go.Ideal Kd
theorem abk{x y:lW}{vx vy:Value}(hl:x.lists.length<9223372036854775808)(hll:∀l∈x.lists,l.length<9223372036854775808):dS Tryz.prog 156 [.agg ⟨[.string x.name,vx]⟩,.agg ⟨[.string y.name,vy]⟩] [ai (aC ae) vx x.lists,ai (aC ae) vy y.lists] (.bool (decide (x=y))):=by
 obtain⟨n1,l1⟩:=x;obtain⟨n2,l2⟩:=y;dsimp only at hl hll⊢;refine aS _ (aQ 156) λB w0=>?_;refine go ?_;intro b2 b3;refine go ?_;first|with_reducible refine aN (λh1=>?_) (λh1=>?_)|with_reducible refine aO (λh1=>?_) (λh1=>?_)|with_reducible refine aL (λh1=>?_) (λh1=>?_)
 ·rw[nC]at h1;refine go ?_;refine aa () (hv:=?_) (hp:=trivial);rw[cO (λe=>uP h1 (by cases e;rfl))];rfl
 rw[nC]at h1;have h1:=iJ h1;refine go ?_;refine ax (R6 (xs:=l1) (ys:=l2) hl hll) (next:=λ_ _=>?_);refine go ?_;refine aa () (hv:=?_) (hp:=trivial);rw[show decide (lW.mk n1 l1=lW.mk n2 l2)=decide (l1=l2)from rO.2 ⟨λh=>by cases h;rfl,λh=>by rw[h1,h]⟩];rfl
theorem abl{x y:aW}{v1 v2 u1 u2:Value}(hl:x.names.length<9223372036854775808)(hll:x.others.length<9223372036854775808):dS Tryz.prog 158 [.agg ⟨jX x v1 v2⟩,.agg ⟨jX y u1 u2⟩] [ai bV v1 x.names,ai bV v2 x.others,ai bV u1 y.names,ai bV u2 y.others] (.bool (decide (x=y))):=by
 obtain⟨n1,o1,k1,f1,R9,os1,s1,t1,p1,m1,y1,c1⟩:=x;obtain⟨n2,o2,k2,f2,Sa,os2,s2,t2,p2,m2,y2,c2⟩:=y;dsimp only[jX]at hl hll⊢;refine aS _ (aQ 158) λB w0=>?_;refine go ?_;intro b2 b3;refine go ?_;refine ax (R8 (xs:=R9) (ys:=Sa) hl) (next:=λ_ _=>?_);refine go ?_;first|with_reducible refine aN (λh1=>?_) (λh1=>?_)|with_reducible refine aO (λh1=>?_) (λh1=>?_)|with_reducible refine aL (λh1=>?_) (λh1=>?_)
 ·refine go ?_;refine aa () (hv:=?_) (hp:=trivial);rw[cO (λe=>h1 (by cases e;rfl))];rfl
 refine go ?_;refine ax (R8 (xs:=os1) (ys:=os2) hll) (next:=λ_ _=>?_);refine go ?_;first|with_reducible refine aN (λh2=>?_) (λh2=>?_)|with_reducible refine aO (λh2=>?_) (λh2=>?_)|with_reducible refine aL (λh2=>?_) (λh2=>?_)
 ·refine go ?_;refine aa () (hv:=?_) (hp:=trivial);rw[cO (λe=>h2 (by cases e;rfl))];rfl
 refine go ?_;first|with_reducible refine aN (λh3=>?_) (λh3=>?_)|with_reducible refine aO (λh3=>?_) (λh3=>?_)|with_reducible refine aL (λh3=>?_) (λh3=>?_)
 ·rw[nC]at h3;refine go ?_;refine aa () (hv:=?_) (hp:=trivial);rw[cO (λe=>uP h3 (by cases e;rfl))];rfl
 rw[nC]at h3;have h3:=iJ h3;refine go ?_;first|with_reducible refine aN (λh4=>?_) (λh4=>?_)|with_reducible refine aO (λh4=>?_) (λh4=>?_)|with_reducible refine aL (λh4=>?_) (λh4=>?_)
 ·rw[nC]at h4;refine go ?_;refine aa () (hv:=?_) (hp:=trivial);rw[cO (λe=>uP h4 (by cases e;rfl))];rfl
 rw[nC]at h4;have h4:=iJ h4;refine go ?_;first|with_reducible refine aN (λh5=>?_) (λh5=>?_)|with_reducible refine aO (λh5=>?_) (λh5=>?_)|with_reducible refine aL (λh5=>?_) (λh5=>?_)
 ·rw[nC]at h5;refine go ?_;refine aa () (hv:=?_) (hp:=trivial);rw[cO (λe=>uP h5 (by cases e;rfl))];rfl
 rw[nC]at h5;have h5:=iJ h5;refine go ?_;refine(fP (v:=.bool (decide ([k1,f1,s1,t1,p1,m1,c1]=[k2,f2,s2,t2,p2,m2,c2]))) rfl rfl (Y8 (n:=7) (e:=3) rfl rfl (by kernel_rfl) (by kernel_rfl) (by kernel_rfl) rfl rfl (by kernel_rfl))).h ?_;refine go ?_;refine aa () (hv:=?_) (hp:=trivial);rw[show decide (aW.mk n1 o1 k1 f1 R9 os1 s1 t1 p1 m1 y1 c1=aW.mk n2 o2 k2 f2 Sa os2 s2 t2 p2 m2 y2 c2)=decide ([k1,f1,s1,t1,p1,m1,c1]=[k2,f2,s2,t2,p2,m2,c2])from rO.2 ⟨λh=>by cases h;rfl,λh=>by cases h;rw[h1,h2,h3,h4,h5]⟩];rfl
theorem abm{va vb:Value}{xs ys:List lW}(hal:xs.length<9223372036854775808)(hl:∀r∈xs,r.lists.length<9223372036854775808/\∀l∈r.lists,l.length<9223372036854775808):dS Tryz.prog 161 [va,vb,.func (.func 156) #[] #[]] [ai iV va xs,ai iV vb ys] (.bool (decide (xs=ys))):=by
 refine aS _ (aQ 161) λB w0=>?_;refine go ?_;refine aG rfl (λh1=>?_) (λh1=>?_)
 ·refine go ?_;refine aa () (hv:=?_) (hp:=trivial);rw[cO (λe=>h1 (by rw[e]))];rfl
 have hlen:xs.length=ys.length:=by omega
 refine go ?_;refine bJ (λk=>xs.length - k) (λk:Nat=>[(17,.int .i64 (k:Int))]) (λ_=>[]) (λ_=>[]) (λk=>k<=xs.length/\∀j,j<k->xs[j]? =ys[j]?) 0 ⟨by omega,λj hj=>by omega⟩ (body:=?_);rintro k ⟨hkx,hsame⟩;refine go ?_;refine aG rfl (λh2=>?_) (λh2=>?_)
 ·refine go ?_;refine dm iV (next:=λ_ _ x (vx:Value) hx=>?_);refine go ?_;intro b8;refine go ?_;refine dm iV (next:=λ_ _ y (vy:Value) hy=>?_);refine go ?_;intro b9;refine go ?_;refine ax (abk (x:=x) (y:=y) (vx:=vx) (vy:=vy) (hl x (bG hx)).1 (hl x (bG hx)).2) (next:=λ_ _=>?_);refine go ?_;refine lg rfl (λh3=>?_) (λh3=>?_)
  ·refine go ?_;refine aa () (hv:=?_) (hp:=trivial);rw[cO (λe=>h3 (by rw[e,hy]at hx;cases hx;rfl))];rfl
  refine go ?_;refine bi (k+1) (by omega) ⟨by omega,λj hj=>?_⟩;by_cases e:j=k
  ·subst e;rw[hx,hy,h3]
  ·exact hsame j (by omega)
 refine go ?_;refine aa () (hv:=?_) (hp:=trivial);have:xs=ys:=by
  apply jD;intro j;by_cases hj:j<k
  ·exact hsame j hj
  ·rw[gy (by omega),gy (by omega)]
 rw[dU this];rfl
theorem abn{va vb:Value}{xs ys:List aW}(hal:xs.length<9223372036854775808)(hl:∀r∈xs,r.names.length<9223372036854775808/\r.others.length<9223372036854775808):dS Tryz.prog 163 [va,vb,.func (.func 158) #[] #[]] [ai bq va xs,ai bq vb ys] (.bool (decide (xs=ys))):=by
 refine aS _ (aQ 163) λB w0=>?_;refine go ?_;refine aG rfl (λh1=>?_) (λh1=>?_)
 ·refine go ?_;refine aa () (hv:=?_) (hp:=trivial);rw[cO (λe=>h1 (by rw[e]))];rfl
 have hlen:xs.length=ys.length:=by omega
 refine go ?_;refine bJ (λk=>xs.length - k) (λk:Nat=>[(17,.int .i64 (k:Int))]) (λ_=>[]) (λ_=>[]) (λk=>k<=xs.length/\∀j,j<k->xs[j]? =ys[j]?) 0 ⟨by omega,λj hj=>by omega⟩ (body:=?_);rintro k ⟨hkx,hsame⟩;refine go ?_;refine aG rfl (λh2=>?_) (λh2=>?_)
 ·refine go ?_;refine dm bq (next:=λ_ _ x (vx:Value×Value) hx=>?_);refine go ?_;intro b8;refine go ?_;refine dm bq (next:=λ_ _ y (vy:Value×Value) hy=>?_);refine go ?_;intro b9;refine go ?_;refine ax (abl (x:=x) (y:=y) (v1:=vx.1) (v2:=vx.2) (u1:=vy.1) (u2:=vy.2) (hl x (bG hx)).1 (hl x (bG hx)).2) (next:=λ_ _=>?_);refine go ?_;refine lg rfl (λh3=>?_) (λh3=>?_)
  ·refine go ?_;refine aa () (hv:=?_) (hp:=trivial);rw[cO (λe=>h3 (by rw[e,hy]at hx;cases hx;rfl))];rfl
  refine go ?_;refine bi (k+1) (by omega) ⟨by omega,λj hj=>?_⟩;by_cases e:j=k
  ·subst e;rw[hx,hy,h3]
  ·exact hsame j (by omega)
 refine go ?_;refine aa () (hv:=?_) (hp:=trivial);have:xs=ys:=by
  apply jD;intro j;by_cases hj:j<k
  ·exact hsame j hj
  ·rw[gy (by omega),gy (by omega)]
 rw[dU this];rfl
theorem Sb{x y:bR}{h1 s1 r1 c1 u1 h2 s2 r2 c2 u2:Value}(hS:nX x):dS Tryz.prog 105 [.agg ⟨jY x h1 s1 r1 c1 u1⟩,.agg ⟨jY y h2 s2 r2 c2 u2⟩] (nT x h1 s1 r1 c1 u1++nT y h2 s2 r2 c2 u2) (.bool (decide (x=y))):=by
 have e1:=hS.dA;have e2:=hS.regs;have e3:=hS.jZ;have e4:=hS.l5;have e5:=hS.uC;have e6:=hS.holes;have e7:=hS.uD;clear hS;obtain⟨n1,v1,p1,w1,g1,ho1,Sc,Sd,Sg,Ke⟩:=x;obtain⟨n2,v2,p2,w2,g2,ho2,Si,Sj,Sk,Kg⟩:=y;dsimp only at e1 e2 e3 e4 e5 e6 e7;dsimp only[jY,nT,List.cons_append,List.nil_append];refine aS _ (aQ 105) λB w0=>?_;refine go ?_;intro b2 b3;refine go ?_;first|with_reducible refine aN (λk1=>?_) (λk1=>?_)|with_reducible refine aO (λk1=>?_) (λk1=>?_)|with_reducible refine aL (λk1=>?_) (λk1=>?_)
 ·rw[nC]at k1;refine go ?_;refine aa () (hv:=?_) (hp:=trivial);rw[cO (λe=>uP k1 (by cases e;rfl))];rfl
 rw[nC]at k1;have k1:=iJ k1;refine go ?_;first|with_reducible refine aN (λk2=>?_) (λk2=>?_)|with_reducible refine aO (λk2=>?_) (λk2=>?_)|with_reducible refine aL (λk2=>?_) (λk2=>?_)
 ·refine go ?_;refine aa () (hv:=?_) (hp:=trivial);rw[cO (λe=>k2 (by cases e;rfl))];rfl
 refine go ?_;first|with_reducible refine aN (λk3=>?_) (λk3=>?_)|with_reducible refine aO (λk3=>?_) (λk3=>?_)|with_reducible refine aL (λk3=>?_) (λk3=>?_)
 ·refine go ?_;refine aa () (hv:=?_) (hp:=trivial);rw[cO (λe=>k3 (by cases e;rfl))];rfl
 refine go ?_;first|with_reducible refine aN (λk4=>?_) (λk4=>?_)|with_reducible refine aO (λk4=>?_) (λk4=>?_)|with_reducible refine aL (λk4=>?_) (λk4=>?_)
 ·refine go ?_;refine aa () (hv:=?_) (hp:=trivial);rw[cO (λe=>k4 (by cases e;rfl))];rfl
 refine go ?_;first|with_reducible refine aN (λk5=>?_) (λk5=>?_)|with_reducible refine aO (λk5=>?_) (λk5=>?_)|with_reducible refine aL (λk5=>?_) (λk5=>?_)
 ·refine go ?_;refine aa () (hv:=?_) (hp:=trivial);rw[cO (λe=>k5 (by cases e;rfl))];rfl
 refine go ?_;refine ax (yD (xs:=ho1) (ys:=ho2) e6) (next:=λ_ _=>?_);refine go ?_;first|with_reducible refine aN (λk6=>?_) (λk6=>?_)|with_reducible refine aO (λk6=>?_) (λk6=>?_)|with_reducible refine aL (λk6=>?_) (λk6=>?_)
 ·refine go ?_;refine aa () (hv:=?_) (hp:=trivial);rw[cO (λe=>k6 (by cases e;rfl))];rfl
 refine go ?_;refine ax (abh (xs:=Sc) (ys:=Si) (by omega)) (next:=λ_ _=>?_);refine go ?_;first|with_reducible refine aN (λk7=>?_) (λk7=>?_)|with_reducible refine aO (λk7=>?_) (λk7=>?_)|with_reducible refine aL (λk7=>?_) (λk7=>?_)
 ·refine go ?_;refine aa () (hv:=?_) (hp:=trivial);rw[cO (λe=>k7 (by cases e;rfl))];rfl
 refine go ?_;refine ax (abm (xs:=Sd) (ys:=Sj) (by omega) e7) (next:=λ_ _=>?_);refine go ?_;first|with_reducible refine aN (λk8=>?_) (λk8=>?_)|with_reducible refine aO (λk8=>?_) (λk8=>?_)|with_reducible refine aL (λk8=>?_) (λk8=>?_)
 ·refine go ?_;refine aa () (hv:=?_) (hp:=trivial);rw[cO (λe=>k8 (by cases e;rfl))];rfl
 refine go ?_;refine ax (abj (xs:=Sg) (ys:=Sk) (by omega)) (next:=λ_ _=>?_);refine go ?_;first|with_reducible refine aN (λk9=>?_) (λk9=>?_)|with_reducible refine aO (λk9=>?_) (λk9=>?_)|with_reducible refine aL (λk9=>?_) (λk9=>?_)
 ·refine go ?_;refine aa () (hv:=?_) (hp:=trivial);rw[cO (λe=>k9 (by cases e;rfl))];rfl
 refine go ?_;refine ax (abn (xs:=Ke) (ys:=Kg) (by omega) e5) (next:=λ_ _=>?_);refine go ?_;refine aa () (hv:=?_) (hp:=trivial);rw[show decide (bR.mk n1 v1 p1 w1 g1 ho1 Sc Sd Sg Ke=bR.mk n2 v2 p2 w2 g2 ho2 Si Sj Sk Kg)=decide (Ke=Kg)from rO.2 ⟨λh=>by cases h;rfl,λh=>by rw[k1,k2,k3,k4,k5,k6,k7,k8,k9,h]⟩];rfl
end Go.Proofs.YtoohgkkmdnbnfaaGreatDoor
namespace Go.Proofs.YtoohgkkmdnbnfaaGreatDoor
open Go.Ideal
noncomputable def Kh:=tH Tryz.prog 232
theorem Sl:lM Tryz.prog 232=some Kh:=by kernel_rfl
theorem srt:Jy Tryz.prog 232:=λblk off cap zs w h1 h2 h3=>Any.slices_Sort_int Tryz.lays189 blk off cap zs w h1 h2 h3
end Go.Proofs.YtoohgkkmdnbnfaaGreatDoor
namespace Go.Proofs.YtoohgkkmdnbnfaaGreatDoor
open Go.Ideal Kd
noncomputable def Ki:=tH Tryz.prog 228
theorem Sm:lM Tryz.prog 228=some Ki:=by kernel_rfl
noncomputable def Kj:=tH Tryz.prog 152
theorem abp:lM Tryz.prog 152=some Kj:=by kernel_rfl
theorem abq{x:Int}:dS Tryz.prog 108 [.int .i64 x] [] (.bool false):=by
 refine aS _ (aQ 108) λB w0=>?_;refine go ?_;refine aa () (hv:=?_) (hp:=trivial);rw[cO (λh=>h rfl)];rfl
theorem abr{x:Int}:dS Tryz.prog 262 [.int .i64 x] [] (.bool false):=by
 refine aS _ (aQ 262) λB w0=>?_;refine go ?_;refine aa () (hv:=?_) (hp:=trivial);rw[cO (λh=>h rfl)];rfl
theorem abt{x y:Int}:dS Tryz.prog 261 [.int .i64 x,.int .i64 y] [] (.bool (decide (x<y))):=by
 refine aS _ (aQ 261) λB w0=>?_;refine go ?_;refine ax (abq (x:=x)) (next:=λ_ _=>?_);refine go ?_;exact aa () (hv:=rfl) (hp:=trivial)
def Kk(xs:List Int)(z:Int)(y:Nat×Bool):Prop:=y.1<=xs.length/\(∀(j:Nat) x,j<y.1->xs[j]? =some x->x<z)/\(∀(j:Nat) x,y.1<=j->xs[j]? =some x->z<=x)/\(y.2=true↔xs[y.1]? =some z)
theorem Kk.mem{xs:List Int}{z:Int}{y:Nat×Bool}(h:Kk xs z y)(hs:xs.Pairwise (·<·)):y.2=true↔z∈xs:=by
 obtain⟨h1,h2,h3,h4⟩:=h;rw[h4];refine⟨λh=>bG h,λh=>?_⟩;obtain⟨j,hj⟩:=wR.1 h;have hjl:=(bA.1 hj)
 rcases Nat.lt_trichotomy j y.1 with h5|h5|h5
 ·have:=h2 j z h5 hj;omega
 ·rw[<- h5];exact hj
 ·have hyl:y.1<xs.length:=by have:=hjl.1;omega
  have hy:xs[y.1]? =some xs[y.1]:=dz hyl;have h6:=h3 y.1 _ (bn _) hy;have h7:=L9.1 hs y.1 j hyl hjl.1 h5;rw[hjl.2]at h7;omega
theorem Sn{v:Value}{xs:List Int}{z:Int}(hl:xs.length<4611686018427387904)(hs:xs.Pairwise (·<=·)):
 aV Tryz.prog (.func 229) [v,.int .i64 z] [] [] [ai ae v xs] (λy:Nat×Bool=>.tuple ⟨[.int .i64 (y.1:Int),.bool y.2]⟩) (λ_=>[]) (λ_=>[]) (Kk xs z):=by
 refine aS _ (aQ 229) λB w0=>?_;refine go ?_;refine bJ (λy:Nat×Nat=>y.2 - y.1) (λy=>[(7,.int .i64 (y.1:Int)),(8,.int .i64 (y.2:Int))]) (λ_=>[]) (λ_=>[]) (λy=>y.1<=y.2/\y.2<=xs.length/\(∀(j:Nat) x,j<y.1->xs[j]? =some x->x<z)/\(∀(j:Nat) x,y.2<=j->xs[j]? =some x->z<=x)) (0,xs.length) ⟨dD _,bn _,λj x hj=>by omega,λj x hj hx=>by have:=(bA.1 hx).1;omega⟩ (body:=?_);rintro⟨a,b⟩ ⟨hab,hb,hlo,hhi⟩;dsimp only at hab hb hlo hhi⊢;refine go ?_;refine aG rfl (λh1=>?_) (λh1=>?_)
 ·have Cn:a<=(a+b)>>>1/\(a+b)>>>1<b:=by
   rw[TW];omega
  generalize hm:(a+b)>>>1=m at Cn;refine go ?_;rw[show(a:Int)+(b:Int)=((a+b:Nat):Int)by omega];refine(fP rfl rfl (CV (k:=.u64) (m:=((a+b:Nat):Int)) (by kernel_rfl:Tryz.prog.underlying 3=some (.int .i64)) (by kernel_rfl) rfl (QA (by omega)))).h ?_;refine(fP rfl rfl (QB (a:=a+b) (b:=1) rfl rfl (by omega))).h ?_;rw[hm];refine(fP rfl rfl (CV (k:=.i64) (m:=(m:Int)) (by kernel_rfl:Tryz.prog.underlying 63=some (.int .u64)) (by kernel_rfl) rfl (wrapN (by omega)))).h ?_;refine go ?_;intro _ _ x hx;refine go ?_;refine ax (abt (x:=x) (y:=z)) (next:=λ_ _=>?_);refine go ?_;have hle:∀(i j:Nat) u v,i<=j->xs[i]? =some u->xs[j]? =some v->u<=v:=by
   intro i j u v hij hu hv;by_cases e:i=j
   ·subst e;rw[hu]at hv;injection hv with hv;omega
   ·exact L9.1 hs i j (bA.1 hu).1 (bA.1 hv).1 (by omega)|>λh=>by
     rw[(bA.1 hu).2,(bA.1 hv).2]at h;exact h
  refine aG rfl (λh2=>?_) (λh2=>?_)
  ·refine go ?_;refine bi (m+1,b) (by show b - (m+1)<b - a;omega) ⟨by show m+1<=b;omega,hb,λj u hj hu=>?_,hhi⟩;have:=hle j m u x (by show j<=m;have:j<m+1:=hj;omega) hu hx;omega
  ·refine go ?_;refine bi (a,m) (by show m - a<b - a;omega) ⟨by show a<=m;omega,by show m<=_;omega,hlo,λj u hj hu=>?_⟩;have:=hle m j x u hj hx hu;omega
 have hba:b=a:=by omega
 subst hba;refine go ?_;first|with_reducible refine aN (λh2=>?_) (λh2=>?_)|with_reducible refine aO (λh2=>?_) (λh2=>?_)|with_reducible refine aL (λh2=>?_) (λh2=>?_)
 ·have hn:xs[b]? =none:=gy (by omega);refine go ?_;exact aa (b,false) (hv:=rfl) (hp:=⟨by show b<=_;omega,hlo,hhi,by show false=true↔xs[b]? =some z;rw[hn];simp⟩)
 refine go ?_;intro _ _ x hx;refine go ?_;by_cases hxz:x=z
 ·subst hxz;rw[dU rfl];refine go ?_;exact aa (b,true) (hv:=rfl) (hp:=⟨by show b<=_;omega,hlo,hhi,by show true=true↔xs[b]? =some x;simp[hx]⟩)
 ·rw[cO hxz];refine go ?_;intro _ _ x2 hx2;refine go ?_;refine ax (abr (x:=x2)) (next:=λ_ _=>?_);refine go ?_;exact aa (b,false) (hv:=rfl) (hp:=⟨by show b<=_;omega,hlo,hhi,by show false=true↔xs[b]? =some z;rw[hx];simp[hxz]⟩)
theorem Sq{v:Value}{aF:List (Int×ae.Y)}(hl:aF.length<=4096):aV Tryz.prog (.func 228) [v] [] [] [qg ae v aF] (λv':Value=>v') (λv'=>[ar ae v' aF]) (λ_=>[]) (λ_=>True):=by
 refine aS Ki Sm λB w0=>?_;refine J9 (v:=v) (aF:=aF) ae (λe c ev=>?_) (λe i o f c ev=>?_) (λhne i o f c ev=>?_)
 ·subst e ev;refine go ?_;refine(fP rfl rfl (EZ (e:=3) (by kernel_rfl) rfl)).h ?_;refine go ?_;refine Ka ae ?_;exact aa (.slice none 0 0) (hv:=rfl) (hp:=trivial)
 ·subst e ev;refine go ?_;refine(fP rfl rfl (Au (e:=3) (by kernel_rfl) rfl)).h ?_;refine go ?_;intro b;refine go ?_;refine JC (b:=b) ?_;refine go ?_;refine sF (b:=b) (m:=0) (f:=0) ae (aF:=[]) rfl (.inl rfl) ?_ (hk:=aj.here);exact aa (.slice (some ⟨b,0,some 0⟩) 0 0) (hv:=rfl) (hp:=trivial)
 ·subst ev;refine go ?_;refine(fP rfl rfl (Au (e:=3) (by kernel_rfl) rfl)).h ?_;refine go ?_;intro b;refine go ?_;refine JD (b:=b) ae aF hne (by omega) (λb'=>?_);refine go ?_;refine sF (b:=b') (m:=aF.length) (f:=ae.n) ae (aF:=aF) rfl (.inr rfl) ?_ (hk:=aj.here);exact aa (.slice (some ⟨b',0,some ae.n⟩) aF.length aF.length) (hv:=rfl) (hp:=trivial)
abbrev Df:List Value:=[.int .i64 0,.int .i64 0,.int .i64 0,.slice none 0 0,.slice none 0 0]
abbrev l6(g:bO)(vh vc:Value):List Value:=[.int .i64 g.shape,.int .i64 g.w,.int .i64 g.h,vh,vc]
abbrev oZ(g:bO)(vh vc:Value):List aB:=[ai ae vh g.holes,ai ae vc g.cells]
structure Kl where
 ok:Bool
 vh:Value
 vc:Value
def yI(s w h:Int)(holes:List Int):bO:=⟨s,w,h,holes,nU w h holes⟩
abbrev mkV(s w h:Int)(holes:List Int)(y:Kl):Value:=.tuple ⟨[.agg ⟨cond y.ok (l6 (yI s w h holes) y.vh y.vc) Df⟩,.int .i64 (cond y.ok 0 130)]⟩
abbrev sK(s w h:Int)(holes:List Int)(y:Kl):List aB:=cond y.ok (oZ (yI s w h holes) y.vh y.vc) []
def uF(xs:List Int):Int:=xs.getLast?.getD (-1)
theorem abu(xs:List Int)(x:Int):uF (xs++[x])=x:=by simp[uF]
theorem abv{xs:List Int}(h:∀x∈xs,0<=x): -1<=uF xs:=by
 unfold uF;cases hx:xs.getLast? with
 |none=>simp
 |some x=>
  have:=h x (List.mem_of_getLast? hx);simp only[sQ];omega
theorem abw{xs:List Int}(h:xs.Pairwise (·<·)){a:Int}(ha:a∈xs):a<=uF xs:=by
 unfold uF;cases hx:xs.getLast? with
 |none=>rw[List.getLast?_eq_none_iff]at hx;subst hx;cases ha
 |some x=>
  obtain⟨ys,rfl⟩:=List.getLast?_eq_some_iff.1 hx;simp only[sQ];rcases eZ.1 ha with h1|h1
  ·have:=(Ma.1 h).2.2 a h1 x (bC.2 rfl);omega
  ·rw[bC.1 h1];exact Int.le_refl _
theorem abx{xs:List Int}{k:Nat}{x:Int}(h:xs.Pairwise (·<·))(hx:xs[k]? =some x)(h0:0<=x):uF (xs.take k)<x:=by
 unfold uF;cases hl:(xs.take k).getLast? with
 |none=>simp only[Option.getD_none];omega
 |some y=>
  simp only[sQ];have hy:=List.mem_of_getLast? hl;have hd:xs=xs.take k++x::xs.drop (k+1):=by
   conv=>lhs;rw[<- rH k xs]
   rw[rM (bA.1 hx).1,(bA.1 hx).2]
  rw[hd]at h;exact(Ma.1 h).2.2 y hy x (bF ..)
theorem Km{s w h:Int}{holes:List Int}{vh:Value}(hw64:jK w)(afc:jK h)(hl:holes.length<4611686018427387904):
 aV Tryz.prog (.func 152) [.int .i64 s,.int .i64 w,.int .i64 h,vh] [] [] [ai ae vh holes] (mkV s w h holes) (λ_=>[]) (sK s w h holes) (λy=>y.ok=true↔oV s w h holes):=by
 have bad:¬oV s w h holes->∀{B:List Nat} {w0:Wd} {kl:List OA} {F:List aB} {l:List (Nat×Value)} {n b:Nat} {aR:List OA},lk l 8=ptr' b->lk l 9=.int .i64 130->aj (pt b (.cells Df)) kl aR->
  R (λh0=>zx Kj (Go.Ideal.Left B w0 (mkV s w h holes) (λ_=>[]) (sK s w h holes) (λy=>y.ok=true↔oV s w h holes)) .ret (act n l [] none none) h0) B w0 kl F:=by
  intro hno B w0 kl F l n b aR h8 h9 hk;refine Pp (aR:=kl) ⟨false,.nilFunc,.nilFunc⟩ (vs:=[.agg ⟨Df⟩,.int .i64 130]) ?_ rfl ⟨(λe=>by cases e),λe=>absurd e hno⟩ .nil .nil (.inr rfl);show RS l kl [.nK 5 8,.tmp 9] _;exact .nK h8 hk rfl (.tmp h9 .nil)
 refine aS Kj abp λB w0=>?_;refine go ?_;intro b8;refine go ?_;by_cases hsh:s=1\/s=2
 rotate_left
 ·rw[dU (show s≠1 from λe=>hsh (.inl e))];refine go ?_;rw[dU (show s≠2 from λe=>hsh (.inr e))];refine go ?_;exact bad (λh=>hsh h.sh) rfl rfl .here
 have hmk:∀sh,(sh=1\/sh=2)->(oV sh w h holes↔oV s w h holes):=λsh e=>⟨λq=>⟨hsh,q.wi,q.he,q.len,q.inc,q.mem⟩,λq=>⟨e,q.wi,q.he,q.len,q.inc,q.mem⟩⟩
 have h22:∀{B:List Nat} {w0:Wd} {kl:List OA} {F:List aB} {K:KO} {ds:List Tmp} {rest:List bz} {n:Nat} {l:List (Nat×Value)} {D:List Deferred},
  R (λh0=>aD Tryz.prog ds rest (act n ((22,.bool false)::(21,.bool false)::l) D none none) h0 K) B w0 kl F->R (λh0=>aD Tryz.prog ds rest (act n ((22,.bool false)::(21,.bool false)::l) D none none) h0 K) B w0 kl F:=λh=>h
 rcases hsh with rfl|rfl;all_goals
  refine go ?_;first|with_reducible refine aN (λa1=>?_) (λa1=>?_)|with_reducible refine aO (λa1=>?_) (λa1=>?_)|with_reducible refine aL (λa1=>?_) (λa1=>?_)
  rotate_left
  ·refine go ?_;exact bad (λq=>by have:=q.wi;omega) rfl rfl .here
  refine go ?_;first|with_reducible refine aN (λa2=>?_) (λa2=>?_)|with_reducible refine aO (λa2=>?_) (λa2=>?_)|with_reducible refine aL (λa2=>?_) (λa2=>?_)
  rotate_left
  ·refine go ?_;exact bad (λq=>by have:=q.wi;omega) rfl rfl .here
  refine go ?_;first|with_reducible refine aN (λa3=>?_) (λa3=>?_)|with_reducible refine aO (λa3=>?_) (λa3=>?_)|with_reducible refine aL (λa3=>?_) (λa3=>?_)
  rotate_left
  ·refine go ?_;exact bad (λq=>by have:=q.he;omega) rfl rfl .here
  refine go ?_;first|with_reducible refine aN (λa4=>?_) (λa4=>?_)|with_reducible refine aO (λa4=>?_) (λa4=>?_)|with_reducible refine aL (λa4=>?_) (λa4=>?_)
  rotate_left
  ·refine go ?_;exact bad (λq=>by have:=q.he;omega) rfl rfl .here
  have hwh:=AL (w:=w) (h:=h) ⟨by omega,by omega⟩ ⟨by omega,by omega⟩;refine go ?_;refine aG rfl (λa5=>?_) (λa5=>?_)
  ·refine go ?_;exact bad (λq=>by have:=q.len;omega) rfl rfl .here
  refine go ?_;refine bJ (λk=>holes.length - k) (λk:Nat=>[(49,.int .i64 (k:Int)),(10,.int .i64 (uF (holes.take k)))]) (λ_=>[]) (λ_=>[]) (λk=>k<=holes.length/\(holes.take k).Pairwise (·<·)/\∀x∈holes.take k,0<=x/\x<w*h) 0 ⟨dD _,by simp,by simp⟩ (body:=?_);rintro k ⟨hk,qp,hmem⟩;refine go ?_;refine aG rfl (λa6=>?_) (λa6=>?_)
  ·refine go ?_;intro _ _ x hx;refine go ?_;have hxm:=bG hx;first|with_reducible refine aN (λa7=>?_) (λa7=>?_)|with_reducible refine aO (λa7=>?_) (λa7=>?_)|with_reducible refine aL (λa7=>?_) (λa7=>?_)
   rotate_left
   ·refine go ?_;exact bad (λq=>by
     have h1:=q.inc;have h2:=q.mem x hxm;have:=abx h1 hx h2.1;omega) rfl rfl .here
   refine go ?_;refine aG rfl (λa8=>?_) (λa8=>?_)
   ·refine go ?_;exact bad (λq=>by have:=q.mem x hxm;omega) rfl rfl .here
   refine go ?_;have htk:holes.take (k+1)=holes.take k++[x]:=by rw[mg,hx];rfl
   refine bi (k+1) (by omega) ⟨by omega,?_,?_⟩ (hl:=⟨rfl,by rw[htk,abu];rfl,by repeat (first|exact trivial|refine⟨rfl,?_⟩)⟩)
   ·rw[htk,Ma];refine⟨qp,by simp,λa ha b hb=>?_⟩;rw[bC.1 hb];have:=abw qp ha;omega
   ·rw[htk];intro z hz;rcases eZ.1 hz with hz|hz
    ·exact hmem z hz
    ·rw[bC.1 hz];have:=abv (λy hy=>(hmem y hy).1);omega
  have hkl:k=holes.length:=by omega
  subst hkl;rw[eB]at qp hmem;have hok:∀s',(s'=1\/s'=2)->oV s' w h holes:=λs' hs'=>⟨hs',⟨by omega,by omega⟩,⟨by omega,by omega⟩,by omega,qp,hmem⟩
  obtain⟨m,hm⟩:=qB (show 0<=w*h by omega);have aby:nU w h holes=iF m holes:=by
   unfold nU;rw[hm];rfl
  refine go ?_;refine JB ae vh (λxh hxh=>?_);have hxl:xh.length=holes.length:=by rw[<- hxh,bT]
  refine ax (Sq (aF:=xh) (by omega)) (next:=λv1 _=>?_);refine EY (E:=ae) (v:=v1) (aF:=xh) ?_ (λw h p hp f hf=>by cases hf);rw[hxh];refine fq (E:=ae) (v:=v1) (xs:=holes) (by simp) λa1 c1 e1=>?_;subst e1;refine go ?_;rw[hm];refine mE ae ?_;refine bJ (λy:Nat×Option Addr=>m - y.1) (λy=>[(75,.int .i64 (y.1:Int))]) (λy=>[pt b8 (.cells [.int .i64 _,.int .i64 w,.int .i64 h,.slice a1 holes.length c1,.slice y.2 (iF y.1 holes).length (iF y.1 holes).length]),ap ae (.slice y.2 (iF y.1 holes).length (iF y.1 holes).length) (iF y.1 holes)]) (λ_=>[]) (λy=>y.1<=m) (0,none) (dD _) (hk:=by repeat (first|exact aM.nil|(apply aM.cons;(focus (repeat (first|exact aj.here|apply aj.there)))))) (body:=?_);rintro⟨k,ad⟩ hk;dsimp only at hk⊢;have hcl:=Fs k holes;refine go ?_;refine aG rfl (λa9=>?_) (λa9=>?_)
  ·refine go ?_;refine ax (Sn (xs:=holes) (z:=(k:Int)) hl (qp.imp (λh=>Int.le_of_lt h))) (next:=λy hy=>?_);have hmm:=hy.mem qp;clear hy;obtain⟨n,b⟩:=y;dsimp only at hmm;refine go ?_;cases b with
   |true=>
    refine go ?_;have e1:iF (k+1) holes=iF k holes:=by rw[Q4,if_pos (hmm.1 rfl),iX]
    rw[<- e1];exact bi (k+1,ad) (by show m - (k+1)<m - k;omega) (by show k+1<=m;omega)
   |false=>
    have hnm:¬(k:Int)∈holes:=λh=>by have:=hmm.2 h;cases this
    have e1:iF k holes++[(k:Int)]=iF (k+1) holes:=by rw[Q4,if_neg hnm]
    have e2:(iF k holes).length+1=(iF (k+1) holes).length:=by rw[<- e1];simp
    refine go ?_;intro b89;refine go ?_;refine kR ae (xs:=iF k holes) (k:Int) () (by omega) λad'=>?_;rw[e1,e2];refine go ?_;exact bi (k+1,ad') (by show m - (k+1)<m - k;omega) (by show k+1<=m;omega)
  have hkm:k=m:=by omega
  subst hkm;refine go ?_;refine aZ kE (A:=ap ae (.slice ad (iF k holes).length (iF k holes).length) (iF k holes)) (h:=?_);refine go ?_;refine aa ⟨true,.slice a1 holes.length c1,.slice ad (iF k holes).length (iF k holes).length⟩ (hv:=rfl) (hp:=⟨λ_=>hok _ (by first|exact .inl rfl|exact .inr rfl),λ_=>rfl⟩) (hF:=?_);show Sub [ai ae _ holes,ai ae _ (nU w h holes)] _;rw[aby];exact .cons (by simp) (.cons (by simp) .nil)
end Go.Proofs.YtoohgkkmdnbnfaaGreatDoor
namespace Go.Proofs.YtoohgkkmdnbnfaaGreatDoor
open Go.Ideal Kd
structure wD(g:bO):Prop where
 w:jK g.w
 h:jK g.h
 holes:g.holes.length<4611686018427387904
 cells:g.cells.length<4611686018427387904
theorem Sr{g:bO}{vh vc:Value}(hS:wD g):
 aV Tryz.prog (.func 230) [.agg ⟨l6 g vh vc⟩] [] [] (oZ g vh vc) (λe:Int=>.int .i64 e) (λ_=>[]) (λ_=>[]) (λe=>e=0↔gH g):=by
 refine aS _ (aQ 230) λB w0=>?_;refine go ?_;intro b1;refine go ?_;refine ax (Km (s:=g.shape) (w:=g.w) (h:=g.h) (holes:=g.holes) (vh:=vh) hS.w hS.h hS.holes) (next:=λy hy=>?_);obtain⟨ok,v1,v2⟩:=y;cases ok with
 |false=>
  have hno:¬oV g.shape g.w g.h g.holes:=λh=>by have:=hy.2 h;cases this
  dsimp only[mkV,sK,cond,List.nil_append];refine go ?_;intro b3;refine go ?_;exact aa 130 (hv:=rfl) (hp:=⟨(λh=>by cases h),λh=>absurd h.make hno⟩)
 |true=>
  have hmk:=hy.1 rfl;dsimp only[mkV,sK,cond,oZ,yI,List.cons_append,List.nil_append];refine go ?_;intro b3;refine go ?_;refine ax (yD (xs:=nU g.w g.h g.holes) (ys:=g.cells) (by
   have:=Fs (g.w*g.h).toNat g.holes;have:=AL hmk.wi hmk.he;unfold nU;omega)) (next:=λ_ _=>?_)
  refine go ?_;refine lg rfl (λh1=>?_) (λh1=>?_)
  ·refine go ?_;exact aa 130 (hv:=rfl) (hp:=⟨(λh=>by cases h),λh=>absurd h.cells.symm h1⟩)
  ·refine go ?_;exact aa 0 (hv:=rfl) (hp:=⟨λ_=>⟨hmk,h1.symm⟩,λ_=>rfl⟩)
abbrev abA(x:Int×(Int×Int)):List Value:=[.int .i64 x.1,yj x.2]
theorem Kn{b1:Nat}{g:bO}{vh vc:Value}(hg:gH g):qf Tryz.prog abA (.func 263) [] [ptr' b1] [dF b1 0 (l6 g vh vc),ai ae vc g.cells] (λxs=>xs=aU g):=by
 intro S inv ok step s0 sD y1 y2 F' h0 hok hy;have hgl:=hg.len;have hwi:=hg.make.wi;rw[dn,dn,di];refine aS _ (aQ 263) λB w0=>?_;refine go ?_;refine bJ (λy:Nat×S=>g.cells.length - y.1) (λy=>[(10,.int .i64 (y.1:Int))]) (λy=>inv y.2) (λ_=>[]) (λy=>y.1<=g.cells.length/\ok ((aU g).take y.1) y.2/\fF step y.2 ((aU g).drop y.1)=fF step s0 (aU g)) (0,s0) ⟨dD _,h0,rfl⟩ (body:=?_);rintro⟨k,s⟩ ⟨hk,hos,hrun⟩;dsimp only at hk hos hrun⊢;refine go ?_;refine aG rfl (λh1=>?_) (λh1=>?_)
 ·refine go ?_;intro _ _ x hx;have hxb:=hg.cell x (bG hx);have hsp:=AO hx;have hd:(aU g).drop k=((k:Int),nV g x)::(aU g).drop (k+1):=by
   rw[rM (by rw[nW];omega)];congr 1;rw[dz (by rw[nW];omega)]at hsp;exact Option.some.inj hsp
  have hX:(aU g).take k++((k:Int),nV g x)::(aU g).drop (k+1)=aU g:=by rw[<- hd,rH]
  refine go ?_;refine(fP rfl rfl (Yr (a:=x) (b:=g.w) rfl rfl (by omega))).h ?_;refine go ?_;have hq:0<=x.tdiv g.w/\x.tdiv g.w<=x:=by
   rw[yU hxb.1];exact⟨Int.ediv_nonneg hxb.1 (by omega),Int.ediv_le_self _ hxb.1⟩
  have hr:0<=x.tmod g.w/\x.tmod g.w<=x:=by
   rw[L6 hxb.1];refine⟨Int.emod_nonneg _ (by omega),?_⟩;have:=L8 x g.w;have h3:0<=g.w*(x/g.w):=Int.mul_nonneg (by omega) (Int.ediv_nonneg hxb.1 (by omega));omega
  refine(fP rfl rfl (Pj (a:=x) (b:=g.w) rfl rfl (by omega) (by omega) (by omega))).h ?_;refine go ?_;refine aG rfl (λh2=>?_) (λh2=>?_)
  ·have hso:nV g x=(x.tmod g.w - (x.tdiv g.w).tdiv 2,x.tdiv g.w):=by unfold nV;rw[if_pos h2]
   have hq2:0<=(x.tdiv g.w).tdiv 2/\(x.tdiv g.w).tdiv 2<=x.tdiv g.w:=by
    rw[yU hq.1];omega
   rw[hso]at hX hd;have l7:=hy _ s _ _ hos hX;refine go ?_;refine(fP rfl rfl (Pj (a:=x.tdiv g.w) (b:=2) rfl rfl (by omega) (by omega) (by omega))).h ?_;refine go ?_;refine ax l7 (next:=λ_ _=>?_);rw[hd,fF]at hrun;refine go ?_;cases hst:step s ((k:Int),_)with
   |mk s' b=>
    have hst:=hst;rw[hst]at hrun;cases b with
    |true=>
     refine go ?_;refine bi (k+1,s') (by show g.cells.length - (k+1)<g.cells.length - k;omega) ⟨by show k+1<=_;omega,?_,hrun⟩;have:=hok _ s _ _ hos hX (by rw[hst]);rw[hst]at this;rw[show(aU g).take (k+1)=(aU g).take k++[_]from by rw[mg,hsp];rfl];rw[hso];exact this
    |false=>
     refine go ?_;exact aa (aU g) (hv:=rfl) (hp:=rfl) (hk:=by rw[<- hrun];exact aM.all _)
  ·have hso:nV g x=(x.tmod g.w,x.tdiv g.w):=by unfold nV;rw[if_neg h2]
   rw[hso]at hX hd;have l7:=hy _ s _ _ hos hX;refine go ?_;refine ax l7 (next:=λ_ _=>?_);rw[hd,fF]at hrun;refine go ?_;cases hst:step s ((k:Int),_)with
   |mk s' b=>
    have hst:=hst;rw[hst]at hrun;cases b with
    |true=>
     refine go ?_;refine bi (k+1,s') (by show g.cells.length - (k+1)<g.cells.length - k;omega) ⟨by show k+1<=_;omega,?_,hrun⟩;have:=hok _ s _ _ hos hX (by rw[hst]);rw[hst]at this;rw[show(aU g).take (k+1)=(aU g).take k++[_]from by rw[mg,hsp];rfl];rw[hso];exact this
    |false=>
     refine go ?_;exact aa (aU g) (hv:=rfl) (hp:=rfl) (hk:=by rw[<- hrun];exact aM.all _)
 have hkl:k=(aU g).length:=by rw[nW];omega
 rw[hkl,List.drop_length]at hrun;refine go ?_;exact aa (aU g) (hv:=rfl) (hp:=rfl) (hk:=by rw[<- hrun];exact aM.all _)
end Go.Proofs.YtoohgkkmdnbnfaaGreatDoor
namespace Go.Proofs.YtoohgkkmdnbnfaaGreatDoor
open Go.Ideal Kd
theorem Ko:uf (lK Tryz.prog nM nN):=vG _ _ _ (λf q h v h' hm=>by cases hm)
theorem abB(h:IH)(K:BR):(xq (lK Tryz.prog nM nN) 1000).call ⟨.func 73,[.int .u64 0],[],none⟩ h K=K (.ok (.int .i64 0)) none h:=by kernel_rfl
theorem abC:dS Tryz.prog 73 [.int .u64 0] [] (.int .i64 0):=λB w s=>by
 have h2:=abB w.h λr pm h'=> @decide (pm=none/\r=.ok (.int .i64 0)/\h'=w.h) (Classical.propDecidable _);have h1:=Cx Ko (h2.trans (@dU _ (Classical.propDecidable _) ⟨rfl,rfl,rfl⟩));refine .oK _ h1 λr pm h' hg=>?_;obtain⟨rfl,rfl,rfl⟩:= @iJ _ (Classical.propDecidable _) hg;exact⟨rfl,w,(),rfl,s,rfl,trivial⟩
theorem abD{a:Option Addr}{c:Nat}:dS Tryz.prog 293 [.slice a 0 c,.int .i64 0,.int .i64 0] [] (.tuple ⟨[]⟩):=by
 refine aS _ (aQ 293) λB w0=>?_;refine go ?_;refine ng ?_;refine go ?_;exact aa () (hv:=rfl) (hp:=trivial)
theorem abE{a:Option Addr}{c:Nat}:dS Tryz.prog 264 [.slice a 0 c,.int .i64 0,.int .i64 0,.int .i64 0] [] (.tuple ⟨[]⟩):=by
 refine aS _ (aQ 264) λB w0=>?_;refine go ?_;refine ng ?_;refine go ?_;refine ax (abD (a:=a) (c:=c)) (next:=λ_ _=>?_);refine go ?_;exact aa () (hv:=rfl) (hp:=trivial)
theorem abF{a:Option Addr}{c:Nat}:dS Tryz.prog 232 [.slice a 0 c] [] (.tuple ⟨[]⟩):=by
 refine aS Kh Sl λB w0=>?_;refine go ?_;refine(fP rfl rfl (CV (k:=.u64) (m:=0) (by kernel_rfl:Tryz.prog.underlying 3=some (.int .i64)) (by kernel_rfl) rfl (by rfl))).h ?_;refine ax abC (next:=λ_ _=>?_);refine go ?_;refine ax (abE (a:=a) (c:=c)) (next:=λ_ _=>?_);refine go ?_;exact aa () (hv:=rfl) (hp:=trivial)
theorem abG:∃fn body,Tryz.prog.funcs[232]? =some fn/\fn.body=some body/\fn.name≠ "runtime.NumGoroutine" :=by
 obtain⟨fn,h1,h2⟩:=Ko.fn 232 Kh Sl;have h3:Tryz.prog.funcs[232]? =some fn:=h1;have h4:(fn.name== "runtime.NumGoroutine")=false:=by
  have e:(Tryz.prog.funcs[232]?).map (λf=>f.name== "runtime.NumGoroutine")=some false:=by kernel_rfl
  rw[h3]at e;exact Option.some.inj e
 have h5:fn.body.isSome=true:=by
  have e:(Tryz.prog.funcs[232]?).map (λf=>f.body.isSome)=some true:=by kernel_rfl
  rw[h3]at e;exact Option.some.inj e
 obtain⟨body,hb⟩:=LK.1 h5;exact⟨fn,body,h3,hb,by simpa using h4⟩
theorem Kq{a:Option Addr}{m:Nat}{zs:List Int}(hm:m=zs.length)(hl:zs.length<4611686018427387904):
 aV Tryz.prog (.func 232) [.slice a m m] [] [ap ae (.slice a m m) zs] [] (λ_:Unit=>.tuple ⟨[]⟩) (λ_=>[ap ae (.slice a m m) (bY zs)]) (λ_=>[]) (λ_=>True):=by
 subst hm;obtain⟨fn,body,h1,h2,h3⟩:=abG;by_cases hz:zs=[]
 ·subst hz;have e:bY []=[]:=by simp[bY]
  rw[e];intro B w s;obtain⟨S1,s1,back⟩:=s.Js (k1:=[]) (aR:=[ap ae (.slice a 0 0) []]) (F1:=[]) .nil .nil;refine .oK _ (abF (a:=a) (c:=0) S1 w s1) ?_;rintro r pm h' ⟨hp,w',y,e1,st,e2,_⟩;exact⟨hp,w',(),e1,back w' _ _ st,e2,trivial⟩
 ·exact YZ srt h1 h2 h3 (DI.2 hz) hl
theorem Su:oO Tryz.prog 265 yj:=Zb (e:=3) (by kernel_rfl) (by kernel_rfl) (by kernel_rfl) (λa b=>by kernel_rfl)
theorem Kt{g:bO}{vh vc:Value}:aV Tryz.prog (.func 231) [.agg ⟨l6 g vh vc⟩] [] [] (oZ g vh vc) (λb:Nat=>.func (.func 263) #[] #[ptr' b]) (λ_=>[]) (λb=>[dF b 0 (l6 g vh vc),ai ae vc g.cells]) (λ_=>True):=by
 refine aS _ (aQ 231) λB w0=>?_;refine go ?_;intro b1;refine go ?_;refine aZ (fo (b:=b1)) (h:=?_);exact aa b1 (hv:=rfl) (hp:=trivial)
def rA(c:Prop)(f:aB):aB:=⟨λw=>c->f.p w,λa h e=>f.mono a (h e)⟩
theorem wE{B:List Nat}{w0:Wd}{kl:List OA}{F:List aB}{Q:IH->Prop}{c:Prop}{f:aB}(hc:¬c)(h:R Q B w0 kl (rA c f::F)):R Q B w0 kl F:=iD (rA c f) (λw _ e=>absurd e hc) h
theorem sM{B:List Nat}{w0:Wd}{kl:List OA}{F:List aB}{Q:IH->Prop}{c:Prop}{f:aB}(hf:f∈F)(h:R Q B w0 kl (rA c f::F)):R Q B w0 kl F:=iD (rA c f) (λw hw _=>hw f hf) h
structure Ku where
 v:Value
 e:Int
abbrev FQ(y:Ku):Value:=.tuple ⟨[y.v,.int .i64 y.e]⟩
theorem FT{S α:Type}(f:S->α->S):∀(xs:List α) (s:S),iy (λs x=>(f s x,Out.normal)) s xs=(xs.foldl f s,.normal)
 |[],s=>rfl
 |x::xs,s=>by
  show iy (λs x=>(f s x,Out.normal)) (f s x) xs=_;rw[FT f xs];rfl
section
variable {P:Program} {B:List Nat} {w0:Wd} {kl kl':List OA} {F:List aB} {Q:IH->Prop}
theorem abH{b:Nat}{cs cs':List Value}(e:cs=cs')(h:R Q B w0 (pt b (.cells cs')::kl') F)(hk:aj (pt b (.cells cs)) kl kl':=by exact fE):R Q B w0 kl F:=by
 subst e;exact λw s=>h w (s.fC hk)
theorem Dg{α:Type}{E:Enc α}{v:Value}{xs:List α}(h:∀a,v=.slice a xs.length xs.length->R Q B w0 kl F)(hk:aj (ap E v xs) kl kl':=by exact fE):R Q B w0 kl F:=λw s=>by
 obtain⟨S,⟨S1,S2,q,_⟩,_⟩:=(s.fC hk).own;obtain⟨a,e⟩:=Je q;exact h a e w s
end
abbrev FU(b n:Nat):Value:=.slice (some ⟨b,0,some 0⟩) n n
theorem Sv{g:bO}{vh vc:Value}(hS:wD g):
 aV Tryz.prog (.func 153) [.agg ⟨l6 g vh vc⟩] [] [] (oZ g vh vc) FQ (λ_=>[]) (λy=>[rA (y.e=0) (ai (qj ae) y.v (dY g))]) (λy=>y.e=0↔gH g):=by
 refine CG _ (aQ 153) λB w0=>?_;refine go ?_;intro b1 b2;refine go ?_;refine ax (Sr (g:=g) hS) (next:=λe he=>?_);refine go ?_;refine aG rfl (λh1=>?_) (λh1=>?_)
 ·refine go ?_;refine wE (c:=(130:Int)=0) (f:=ai (qj ae) (.slice none 0 0) (dY g)) (by omega) ?_;exact Al ⟨.slice none 0 0,130⟩ (hv:=rfl) (hp:=⟨(λh=>by cases h),λh=>absurd (he.2 h) h1⟩)
 have hg:=he.1 (by omega);have hgl:=hg.len;have hsb:=Fv hg;have hsl:=nW g;refine go ?_;intro b4 b5;refine go ?_;refine Jq (aR:=[pt b4 (.cells AP),pt b2 (.cells [.slice none 0 0]),pt b1 (.cells (l6 g vh vc))]) [] (λ_:Unit=>[]) (λ_=>[pt b5 (.cells [.int .i64 (cZ g:Int)])]) (λ_=>[]) (λ_=>True) (hx:=?_) (hy:=?_)
 ·refine aG rfl (λh2=>?_) (λh2=>?_)
  ·refine go ?_;rw[show(4:Int)=(cZ g:Int)by unfold cZ;rw[if_pos h2];rfl];exact oN () trivial
  ·refine go ?_;rw[show(6:Int)=(cZ g:Int)by unfold cZ;rw[if_neg h2];rfl];exact oN () trivial
 intro _ _;refine go ?_;refine vY yj (λbm=>?_);refine go ?_;intro b6;refine go ?_;refine ax (Kt (g:=g) (vh:=vh) (vc:=vc)) (next:=λbs _=>?_);refine go ?_;refine CR (Z:=Nat) (λ(m:List ((Int×Int)×Value)) (x:Int×(Int×Int))=>(upd x.2 (.int .i64 x.1) m,.normal)) (λm=>[fu yj bm m,pt b6 (.cells [.map (some bm)])]) (λvs m=>m=dI vs) [] _ (λx b8=>[pt b8 (.cells [.int .i64 x.2.1,.int .i64 x.2.2])]) rfl (λvs s x rest hs _ _=>by rw[hs,JO]) (Kn (b1:=bs) (vh:=vh) (vc:=vc) hg) (by intro s x lo o B w0;refine go ?_;intro b8;refine go ?_;exact yf b8 rfl) ?_ ?_ (λ_ _=>trivial)
 ·intro vs s x rest b8 lo L B w0 hs hX;dsimp only[List.cons_append,List.nil_append];refine go ?_;refine uo Su x.2 (v:=.int .i64 x.1) ?_;refine go ?_;exact si () rfl trivial trivial
 intro r1 xs hxs;subst hxs;rw[FT (λ(m:List ((Int×Int)×Value)) (x:Int×(Int×Int))=>upd x.2 (.int .i64 x.1) m)];dsimp only[List.cons_append,List.nil_append];rw[show(aU g).foldl (λ(m:List ((Int×Int)×Value)) (x:Int×(Int×Int))=>upd x.2 (.int .i64 x.1) m) []=dI (aU g)from rfl];refine aZ (Aq (b:=bm)) (h:=?_);refine aZ (fo (b:=b6)) (h:=?_);refine go ?_;refine YF g.cells.length ⟨by omega,by omega,by omega⟩ λbl=>?_;rw[show zeros [.slice none 0 0] g.cells.length=List.replicate g.cells.length (.slice none 0 0)from Ol _ _];refine Zl (jL ae) (x0:=([]:List Int)) (λw=>⟨.inl ⟨rfl,rfl,rfl⟩,λ_=>rfl⟩) (h:=?_);refine go ?_;refine ax (Kt (g:=g) (vh:=vh) (vc:=vc)) (next:=λbs2 _=>?_);refine go ?_;refine aZ (fo (b:=b4)) (h:=?_);refine aZ (fo (b:=b5)) (h:=?_);have hml:(dB.take (cZ g)).length=cZ g:=by rw[jE];show min (cZ g) 6=_;have:=yx g;omega
 refine iD (ai JP (.slice (some ⟨b4,0,some 0⟩) (cZ g) 6) (dB.take (cZ g))) (λw h=>ZW (h (dF b4 0 AP) (bB _ (bF ..))) (yx g)) ?_;refine CR (Z:=Nat) (λ(xss:List (List Int)) (x:Int×(Int×Int))=>(xss.set x.1.toNat (j3 g x),.normal)) (λxss=>[lq (jL ae) bl xss,pt b2 (.cells [FU bl g.cells.length])]) (λvs xss=>xss=vs.map (j3 g)++List.replicate (g.cells.length - vs.length) []) (List.replicate g.cells.length []) _ (λx b10=>[pt b10 (.cells [.int .i64 x.2.1,.int .i64 x.2.2])]) (by simp) (λvs s x rest hs hX _=>by
  have h1:=Fw hX;rw[hs,h1.1];have:=Q7 (A:=vs.map (j3 g)) (n:=g.cells.length) (by rw[bT];exact h1.2.1) (j3 g x);rw[bT]at this;rw[kV,this,dM,fK];rfl) (Kn (b1:=bs2) (vh:=vh) (vc:=vc) hg) (by intro s x lo o B w0;refine go ?_;intro b8;refine go ?_;exact yf b8 rfl) ?_ ?_ (λ_ _=>trivial)
 ·intro vs xss x rest b10 lo L B w0 hs hX;dsimp only[List.cons_append,List.nil_append];obtain⟨hc,hvl,hxm⟩:=Fw hX;have hbx:=hsb x hxm;obtain⟨c,s1,s2⟩:=x;dsimp only at hc hbx;subst hc;have hxk:xss[vs.length]? =some []:=by
   rw[hs,pq (by simp),bT,yS,TU,if_pos (by omega)]
  have hxl:xss.length=g.cells.length:=by rw[hs];simp;omega
  refine go ?_;refine(fP rfl rfl (ZZ (m:=cZ g) rfl rfl (yx g))).h ?_;refine go ?_;refine Ay (A:=lq (jL ae) bl xss) (A':=lq (jL ae) bl (xss.set vs.length (eF (dI (aU g)) (s1,s2) ((dB.take (cZ g)).take 0)))) (congrArg (lq (jL ae) bl) (by
   apply jD;intro i;rw[rJ];by_cases hi:vs.length=i
   ·subst hi;rw[if_pos rfl,if_pos (by omega),hxk];rfl
   ·rw[if_neg hi])) ?_
  refine bJ (λj=>cZ g - j) (λj:Nat=>[(47,.int .i64 (j:Int))]) (λj=>[lq (jL ae) bl (xss.set vs.length (eF (dI (aU g)) (s1,s2) ((dB.take (cZ g)).take j)))]) (λ_=>[]) (λj=>j<=cZ g) 0 (dD _) (body:=?_);intro j hj;refine go ?_;refine aG rfl (λh2=>?_) (λh2=>?_)
  ·refine go ?_;obtain⟨dd,hd⟩:∃dd,(dB.take (cZ g))[j]? =some dd:=⟨_,dz (by omega)⟩
   have hdb:=ZX dd (LD (bG hd));have hdv:gV (iK AP (j*2)) 2=some [.int .i64 dd.1,.int .i64 dd.2]:=ZY (j:=j) (d:=dd) (by rw[sS]at hd;split at hd;exact hd;cases hd)
   have hnr:=ZV (dI (aU g)) (s1,s2) ((dB.take (cZ g)).take j) dd;rw[<- j4 hd]at hnr;have hnl:=Fu (dI (aU g)) (s1,s2) ((dB.take (cZ g)).take j);have hjm:=yx g;rw[jE]at hnl;obtain⟨d1,d2⟩:=dd;dsimp only at hdb hdv hnr;refine(EO (o:=0) (j:=j*2) (cs:=AP) rfl rfl rfl (bB _ (bB _ (bF ..))) hdv).h ?_;refine go ?_;intro b12;refine go ?_;refine(fP rfl rfl (vM (a:=s1) (b:=d1) rfl rfl (by omega) (by omega))).h ?_;refine go ?_;refine(fP rfl rfl (vM (a:=s2) (b:=d2) rfl rfl (by omega) (by omega))).h ?_;refine go ?_;refine RX Su (s1+d1,s2+d2) (λv hv hm=>?_) (λhm=>?_)
   ·obtain⟨c,rfl,hc⟩:=Q6 _ _ hv;rw[hv]at hnr;refine go ?_;refine QM (jL ae) (b:=bl) (xss:=xss.set vs.length (eF (dI (aU g)) (s1,s2) ((dB.take (cZ g)).take j))) (k:=vs.length) (xs:=eF (dI (aU g)) (s1,s2) ((dB.take (cZ g)).take j)) (by rw[rJ,if_pos rfl,if_pos (by omega)]) (h:=λws v Dh hv2=>?_);rw[yV]at Dh;refine QO ae v (eF (dI (aU g)) (s1,s2) ((dB.take (cZ g)).take j)) (λhz=>?_);refine su (o:=0+vs.length*1) (cs:=ws) v (by rw[eG,yR];exact hv2) ?_;refine go ?_;intro b43;refine go ?_;refine QD (xs:=eF (dI (aU g)) (s1,s2) ((dB.take (cZ g)).take j)) ae c () (by omega) (next:=λad=>?_);rw[show eF (dI (aU g)) (s1,s2) ((dB.take (cZ g)).take j)++[c]=eF (dI (aU g)) (s1,s2) ((dB.take (cZ g)).take (j+1))from hnr.symm];refine go ?_;refine sj (o:=0+vs.length*1) (cs:=ws) (v:=.slice ad ((eF (dI (aU g)) (s1,s2) ((dB.take (cZ g)).take j)).length+1) ((eF (dI (aU g)) (s1,s2) ((dB.take (cZ g)).take j)).length+1)) (cs':=ws.set vs.length (.slice ad ((eF (dI (aU g)) (s1,s2) ((dB.take (cZ g)).take j)).length+1) ((eF (dI (aU g)) (s1,s2) ((dB.take (cZ g)).take j)).length+1))) (by rw[eG,yR]) (by omega) ?_;refine QR ae (.slice ad ((eF (dI (aU g)) (s1,s2) ((dB.take (cZ g)).take j)).length+1) ((eF (dI (aU g)) (s1,s2) ((dB.take (cZ g)).take j)).length+1)) (eF (dI (aU g)) (s1,s2) ((dB.take (cZ g)).take (j+1))) (λe=>by rw[hnr]at e;exact absurd e (by show¬(_++[c]=[]);simp)) ?_;refine QN (jL ae) (b:=bl) (xss:=xss.set vs.length (eF (dI (aU g)) (s1,s2) ((dB.take (cZ g)).take j))) (vs:=ws) (k:=vs.length) (xs:=eF (dI (aU g)) (s1,s2) ((dB.take (cZ g)).take (j+1))) (by rw[yV];exact Dh) (by rw[yV];omega) (h:=?_);rw[List.set_set];refine go ?_;exact bi (j+1) (by omega) (by omega)
   ·rw[oQ hm]at hnr;refine go ?_;refine Ay (A:=lq (jL ae) bl (xss.set vs.length (eF (dI (aU g)) (s1,s2) ((dB.take (cZ g)).take j)))) (A':=lq (jL ae) bl (xss.set vs.length (eF (dI (aU g)) (s1,s2) ((dB.take (cZ g)).take (j+1))))) (congrArg (lq (jL ae) bl) ((by rw[hnr];exact congrArg (xss.set vs.length) (iX _).symm))) ?_;exact bi (j+1) (by omega) (by omega)
  have hjl:j=cZ g:=by omega
  subst hjl;refine Ay (A:=lq (jL ae) bl (xss.set vs.length (eF (dI (aU g)) (s1,s2) ((dB.take (cZ g)).take (cZ g))))) (A':=lq (jL ae) bl (xss.set vs.length (eF (dI (aU g)) (s1,s2) (dB.take (cZ g))))) (congrArg (lq (jL ae) bl) ((congrArg (λz=>xss.set vs.length (eF (dI (aU g)) (s1,s2) z)) (List.take_of_length_le (Nat.le_of_eq hml))))) ?_;refine go ?_;refine QM (jL ae) (b:=bl) (xss:=xss.set vs.length (eF (dI (aU g)) (s1,s2) (dB.take (cZ g)))) (k:=vs.length) (xs:=eF (dI (aU g)) (s1,s2) (dB.take (cZ g))) (by rw[rJ,if_pos rfl,if_pos (by omega)]) (h:=λws v Dh hv2=>?_);rw[yV]at Dh;refine QO ae v (eF (dI (aU g)) (s1,s2) (dB.take (cZ g))) (λhz=>?_);refine su (o:=0+vs.length*1) (cs:=ws) v (by rw[eG,yR];exact hv2) ?_;have hn6:=Fu (dI (aU g)) (s1,s2) (dB.take (cZ g));rw[hml]at hn6;have hjm:=yx g;refine Dg (E:=ae) (v:=v) (xs:=eF (dI (aU g)) (s1,s2) (dB.take (cZ g))) λa hv=>?_;subst hv;refine ax (Kq (a:=a) (zs:=eF (dI (aU g)) (s1,s2) (dB.take (cZ g))) rfl (by omega)) (next:=λ_ _=>?_);refine abH (b:=bl) (cs:=ws) (cs':=ws.set vs.length (.slice a (eF (dI (aU g)) (s1,s2) (dB.take (cZ g))).length (eF (dI (aU g)) (s1,s2) (dB.take (cZ g))).length)) (Z0 hv2).symm ?_;refine QR ae (.slice a (eF (dI (aU g)) (s1,s2) (dB.take (cZ g))).length (eF (dI (aU g)) (s1,s2) (dB.take (cZ g))).length) (bY (eF (dI (aU g)) (s1,s2) (dB.take (cZ g)))) (λe=>hz (kW.1 (by rw[<- x9,e];rfl))) ?_;refine QN (jL ae) (b:=bl) (xss:=xss.set vs.length (eF (dI (aU g)) (s1,s2) (dB.take (cZ g)))) (vs:=ws) (k:=vs.length) (xs:=bY (eF (dI (aU g)) (s1,s2) (dB.take (cZ g)))) (by rw[yV];exact Dh) (by rw[yV];omega) (h:=?_);refine Ay (A:=lq (jL ae) bl ((xss.set vs.length (eF (dI (aU g)) (s1,s2) (dB.take (cZ g)))).set vs.length (bY (eF (dI (aU g)) (s1,s2) (dB.take (cZ g)))))) (A':=lq (jL ae) bl (xss.set ((vs.length:Int)).toNat (j3 g ((vs.length:Int),s1,s2)))) (congrArg (lq (jL ae) bl) ((by rw[List.set_set,kV];rfl))) ?_;refine go ?_;exact si () rfl trivial trivial
 intro r2 xs2 abK;subst abK;rw[FT (λ(xss:List (List Int)) (x:Int×(Int×Int))=>xss.set x.1.toNat (j3 g x))];dsimp only[List.cons_append,List.nil_append];rw[show(aU g).foldl (λ(xss:List (List Int)) (x:Int×(Int×Int))=>xss.set x.1.toNat (j3 g x)) (List.replicate g.cells.length [])=dY g from Z4 g];refine aZ (Zm (A:=jL ae) (E:=qj ae) (b:=bl) (xss:=dY g) (c:=(dY g).length) (λv=>v) rfl (λ_ _=>rfl) (λv xs=>Zn)) (h:=?_);rw[yz];refine go ?_;refine sM (c:=(0:Int)=0) (f:=ai (qj ae) (.slice (some ⟨bl,0,some 0⟩) g.cells.length g.cells.length) (dY g)) (by simp) ?_;exact Al ⟨.slice (some ⟨bl,0,some 0⟩) g.cells.length g.cells.length,0⟩ (hv:=rfl) (hp:=⟨λ_=>hg,λ_=>rfl⟩)
